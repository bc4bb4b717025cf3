import PyProof.Rows.All
import KE.KSuper
import Wide.FinOn
import OpenK.AllK
import Wide.All
import Lean
import PySem.Challenge.RW_qz0040_02
set_option Elab.async false
set_option maxRecDepth 100000
set_option linter.all false
set_option genSizeOf false
set_option genSizeOfSpec false
set_option tactic.hygienic false
set_option genInjectivity false
set_option genCtorIdx false
set_option backward.match.sparseCases false
namespace Q40.Internal
variable{g:Prop}{a b:Bool}{p1 p3 p4:Prop}{z:Int}{l:List Bool}{p5:Prop}{v:Nat->Int}
inductive LX|v(t i:Nat)|o(t:Nat)(x y:LX)
abbrev zA:=@List.length_map
abbrev zB:=@PySem.wpAny_mono
abbrev zC:=@PySem.wpAny_bind
abbrev zD:=@List.mem_singleton
abbrev zE:=@Nat.le_trans
abbrev zF:=@List.mem_cons_self
abbrev zG:=@congrArg
abbrev zH:=@List.getElem?_eq_getElem
abbrev zI:=@List.mem_cons_of_mem
abbrev zJ:=@List.length_append
abbrev zK:=@List.getElem?_set_ne
abbrev zL:=@List.mem_cons
abbrev zM:=@List.getElem?_eq_some_iff
abbrev zN:=@if_neg
abbrev zO:=@List.getD_eq_getElem?_getD
abbrev zP:=@List.getElem?_set_self
abbrev zQ:=@beq_eq_false_iff_ne
abbrev zR:=@PySem.wpAny_pure
abbrev zS:=@Option.some.inj
abbrev zT:=@Int.ofNat_natAbs_of_nonpos
abbrev zU:=@if_pos
abbrev zV:=@List.map_append
abbrev zW:=@of_decide_eq_true
abbrev zX:=@List.getElem?_map
abbrev zY:=@Int.natAbs_of_nonneg
abbrev zZ:=@List.getElem?_append_left
abbrev yA:=@Nat.zero_le
abbrev yB:=@List.mem_of_getElem?
abbrev yC:=@Nat.sub_add_cancel
abbrev yD:=@List.length_set
abbrev yE:=@List.mem_map
abbrev yF:=@Array.length_toList
abbrev yG:=@beq_iff_eq
abbrev yH:=@Nat.le_sub_one_of_lt
abbrev yI:=@List.getElem_of_mem
abbrev yJ:=@List.getElem?_eq_none
abbrev yK:=@List.lookup_cons
abbrev yL:=@List.all_eq_true
abbrev yM:=@List.mem_filter
abbrev yN:=@Bool.and_eq_true
abbrev yO:=@Nat.le_refl
abbrev yP:=@List.mem_append_left
abbrev yQ:=@List.length_range
abbrev yR:=@decide_eq_false
abbrev yS:=@List.append_nil
abbrev yT:=@List.pairwise_cons
abbrev yU:=@Nat.le_of_succ_le
abbrev yV:=@List.mem_append
abbrev yW:=@PySem.sizeLine_eq
abbrev yX:=@Option.map_eq_some_iff
abbrev yY:=@Int.toNat_natCast
abbrev yZ:=@List.length_replicate
abbrev xA:=@Nat.lt_succ_self
abbrev xB:=@PySem.Heap.get?_push_size
theorem tT:true=true:=rfl
theorem nb{a b:Nat}(h:Nat.ble a b=true):a<=b:=Nat.le_of_ble_eq_true h
theorem xe{α:Sort _}{p:α->Prop}(h:∃v,p v)(k:∀v,p v->g):g:=h.elim k
theorem nD{α:Type _}[DecidableEq α]{a b:α}(h:decide (a=b)=false):a≠b:=of_decide_eq_false h
theorem xa{a b:Prop}(h:a/\b)(k:a->b->g):g:=k h.1 h.2
theorem alI(h:l.all id=true)(n:Nat)(e:l[n]?=some b):b=true:=yL.mp h b (yB e)
theorem alE{α:Type _}[BEq α][LawfulBEq α](h:l.all id=true)(n:Nat){a b:α}(e:l[n]?=some (a==b)):a=b:=yG.mp (alI h n e)
theorem orR(h:(!a||b)=true)(h':a=true):b=true:=by rw[h']at h;exact h
set_option linter.unusedVariables false in theorem two{α:Type _}{l:List α}(h:2<=l.length):∃a b r,l=a::b::r:=by cases l with|nil=>exact absurd h (Nat.not_succ_le_zero 1)|cons a l=>cases l with|nil=>exact absurd h (Nat.lt_irrefl 1)|cons b r=>exact⟨a,b,r,rfl⟩
theorem smG{G:Prop}(h:∀P:Prop,(G->P)->P):G:=h G id
theorem ff{P:Prop}(h:false=true):P:=nomatch h
theorem ns{α:Type _}{x:α}{P:Prop}(h:none=some x):P:=nomatch h
theorem and_l(h:(a&&b)=true):a=true:=by cases a;exact h;rfl
theorem and_r(h:(a&&b)=true):b=true:=by cases a;cases h;exact h
variable{a b:Int}
theorem le_sub_ad(a b:Nat):a<=a-b+b:=Nat.sub_le_iff_le_add.mp (yO _)
noncomputable def nt{α:Type}(d:α)(l:List α):Nat->α:=l.rec (fun _=>d) fun a _ f i=>i.rec a fun j _=>f j
noncomputable def LX.K(x:LX):Nat:=x.rec (fun _ i=>i) fun _ _ _ _ _=>0
noncomputable def LX.N(c:List Nat)(x:LX):Nat:=x.rec (fun t i=>nt i [nt 0 c i] t) fun t _ y a b=>nt 0 [a+b,y.K*a,a*y.K] t
noncomputable def LX.Z(c:List Nat)(z:List Int)(x:LX):Int:=x.rec (fun t i=>nt (i:Int) [(i:Int),nt 0 z i] t) fun t x y a b=>nt 0 [a+b,y.K*a,a*y.K,a-b,-a,(x.N c:Int)] t
abbrev LF:=Int×List Int×List Int
noncomputable def ad(x:List Int):List Int->List Int:=x.rec (fun y=>y) fun a x f y=>y.rec (a::x) fun b y _=>(a+b)::f y
noncomputable def sc(k:Int)(x:List Int):List Int:=x.rec [] fun a _ r=>(k*a)::r
noncomputable def un(i:Nat):List Int:=i.rec [1] fun _ r=>0::r
noncomputable def dt(v:Nat->Int)(x:List Int):Nat->Int:=x.rec (fun _=>0) fun a _ f i=>a*v i+f (i+1)
theorem i4(a b c d:Int):a+b+(c+d)=a+c+(b+d):=by rw[Int.add_assoc,Int.add_left_comm b,<-Int.add_assoc]
theorem dt_ad(v:Nat->Int)(x:List Int):∀y i,dt v (ad x y) i=dt v x i+dt v y i:=by
 induction x with|nil=>exact fun y i=>(Int.zero_add _).symm|cons a x ih=>
  intro y i;cases y with|nil=>exact(Int.add_zero _).symm|cons b y=>exact((congr (zG _ (Int.add_mul a b (v i))) (ih y (i+1))).trans (i4 _ _ _ _):_+_=_)
theorem dt_sc(v:Nat->Int)(k:Int)(x:List Int):∀i,dt v (sc k x) i=k*dt v x i:=by
 induction x with|nil=>exact fun i=>(Int.mul_zero k).symm|cons a x ih=>exact fun i=>((congr (zG _ (Int.mul_assoc k a (v i))) (ih (i+1))).trans (Int.mul_add _ _ _).symm:_+_=_)
theorem dt_un(v:Nat->Int)(j:Nat):∀i,dt v (un j) i=v (i+j):=by
 induction j with|zero=>exact fun i=>(Int.add_zero _).trans (Int.one_mul _)|succ j ih=>exact fun i=>(congr (zG _ (Int.zero_mul _)) (ih (i+1))).trans ((Int.zero_add _).trans (zG v (Nat.succ_add i j)))
structure Cx where
 c:List Nat
 z:List Int
noncomputable def Cx.C(e:Cx)(i:Nat):Int:=(nt 0 e.c i:Nat)
noncomputable def Cx.Z(e:Cx)(i:Nat):Int:=nt 0 e.z i
noncomputable def Cx.ev(e:Cx)(f:LF):Int:=f.1+(dt e.C f.2.1 0+dt e.Z f.2.2 0)
noncomputable def LF.ad(f g:LF):LF:=(f.1+g.1,Q40.Internal.ad f.2.1 g.2.1,Q40.Internal.ad f.2.2 g.2.2)
noncomputable def LF.sc(k:Int)(f:LF):LF:=(k*f.1,Q40.Internal.sc k f.2.1,Q40.Internal.sc k f.2.2)
noncomputable def kf(d:Int):LF:=(d,[],[])
theorem Cx.ad(e:Cx)(f g:LF):e.ev (f.ad g)=e.ev f+e.ev g:=(zG (f.1+g.1+.) ((congr (zG _ (dt_ad _ _ _ _)) (dt_ad _ _ _ _)).trans (i4 _ _ _ _))).trans (i4 _ _ _ _)
theorem Cx.sc(e:Cx)(k:Int)(f:LF):e.ev (f.sc k)=k*e.ev f:=((zG (k*f.1+.) ((congr (zG _ (dt_sc _ _ _ _)) (dt_sc _ _ _ _)).trans (Int.mul_add _ _ _).symm))).trans (Int.mul_add _ _ _).symm
theorem Cx.kf(e:Cx)(d:Int):e.ev (kf d)=d:=Int.add_zero d
noncomputable def LX.fN(x:LX):LF:=x.rec (fun t i=>nt (kf i) [(0,un i,[])] t) fun t _ y a b=>nt (kf 0) [a.ad b,a.sc y.K,a.sc y.K] t
noncomputable def LX.fZ(x:LX):LF:=x.rec (fun t i=>nt (kf i) [kf i,(0,[],un i)] t) fun t x y a b=>nt (kf 0) [a.ad b,a.sc y.K,a.sc y.K,a.ad (b.sc (-1)),a.sc (-1),x.fN] t
theorem Cx.hN(e:Cx)(x:LX):e.ev x.fN=x.N e.c:=by
 induction x with
 |v t i=>cases t with
  |zero=>exact(Int.zero_add _).trans ((Int.add_zero _).trans ((dt_un _ i 0).trans (zG e.C (Nat.zero_add i))))|succ t=>exact e.kf i
 |o t x y a b=>match t with|0=>exact(e.ad _ _).trans (congr (zG _ a) b)|1=>exact(e.sc _ _).trans (zG _ a)|2=>exact(e.sc _ _).trans ((Int.mul_comm _ _).trans (zG (.*(y.K:Int)) a))|_+3=>exact e.kf 0
theorem Cx.hZ(e:Cx)(x:LX):e.ev x.fZ=x.Z e.c e.z:=by
 induction x with
 |v t i=>match t with
  |0=>exact e.kf i|1=>exact(Int.zero_add _).trans ((Int.zero_add _).trans ((dt_un _ i 0).trans (zG e.Z (Nat.zero_add i))))|_+2=>exact e.kf i
 |o t x y a b=>match t with
  |0=>exact(e.ad _ _).trans (congr (zG _ a) b)|1=>exact(e.sc _ _).trans (zG _ a)|2=>exact(e.sc _ _).trans ((Int.mul_comm _ _).trans (zG (.*(y.K:Int)) a))|3=>exact(e.ad _ _).trans ((congr (zG _ a) ((e.sc _ _).trans ((Int.neg_one_mul _).trans (zG _ b)))).trans Int.sub_eq_add_neg.symm)|4=>exact(e.sc _ _).trans ((Int.neg_one_mul _).trans (zG _ a))|5=>exact e.hN x|_+6=>exact e.kf 0
inductive LP|mk(t k:Nat)(x y:LX)
def Cx.den(e:Cx):LP->Prop|.mk t _ x y=>nt False [x.N e.c<=y.N e.c,x.N e.c<y.N e.c,x.N e.c=y.N e.c,x.Z e.c e.z<=y.Z e.c e.z,x.Z e.c e.z<y.Z e.c e.z,x.Z e.c e.z=y.Z e.c e.z] t
noncomputable def lqf(x y:LF)(d k:Int):LF:=((kf d).ad (y.ad (x.sc (-1)))).sc k
noncomputable def LP.f(s:Nat):LP->LF
 |.mk t k x y=>let n:Int:=(k/s%256-128:Nat);let m:Int:=(k/s%256:Nat)-128;nt (kf 0) [lqf x.fN y.fN 0 n,lqf x.fN y.fN (-1) n,lqf x.fN y.fN 0 m,lqf x.fZ y.fZ 0 n,lqf x.fZ y.fZ (-1) n,lqf x.fZ y.fZ 0 m] t
def Cx.S(e:Cx)(f:LF):Prop:=0<=e.ev f
theorem Cx.q(e:Cx){x y:LF}{d k:Int}(hx:e.ev x=a)(hy:e.ev y=b)(h:0<=k*(d+(b-a))):e.S (lqf x y d k):=Int.le_trans h (Int.le_of_eq ((e.sc _ _).trans (zG (k*.) ((e.ad _ _).trans (congr (zG _ (e.kf d)) ((e.ad _ _).trans ((congr (zG _ hy) ((e.sc _ _).trans ((Int.neg_one_mul _).trans (zG _ hx)))).trans Int.sub_eq_add_neg.symm)))))).symm)
theorem p_le(n:Nat)(h:a<=b):0<=(n:Int)*(0+(b-a)):=Int.mul_nonneg (Int.natCast_nonneg _) (by rw[Int.zero_add];exact Int.sub_nonneg_of_le h)
theorem p_lt(n:Nat)(h:a<b):0<=(n:Int)*(-1+(b-a)):=Int.mul_nonneg (Int.natCast_nonneg _) (by rw[Int.add_comm];exact Int.sub_nonneg_of_le (Int.sub_pos_of_lt h))
theorem p_eq(k:Int)(h:a=b):0<=k*(0+(b-a)):=by rw[h,Int.sub_self];exact Int.le_of_eq (Int.mul_zero k).symm
variable{a b:Nat}
theorem Cx.hf(e:Cx)(s:Nat)(p:LP)(h:e.den p):e.S (p.f s):=by
 obtain⟨t,k,x,y⟩:=p;match t with|0=>exact e.q (e.hN _) (e.hN _) (p_le _ (Int.ofNat_le.mpr h))|1=>exact e.q (e.hN _) (e.hN _) (p_lt _ (Int.ofNat_lt.mpr h))|2=>exact e.q (e.hN _) (e.hN _) (p_eq _ (zG Nat.cast h))|3=>exact e.q (e.hZ _) (e.hZ _) (p_le _ h)|4=>exact e.q (e.hZ _) (e.hZ _) (p_lt _ h)|5=>exact e.q (e.hZ _) (e.hZ _) (p_eq _ h)|_+6=>exact h.elim
noncomputable def sumF(s:Nat)(l:List LP):LF:=l.rec (kf 0) fun p _ r=>(p.f s).ad r
noncomputable def allB(q:Int->Bool)(l:List Int):Bool:=l.rec true fun a _ r=>q a&&r
noncomputable def LF.bad(f:LF):Bool:=decide (f.1<0)&&(allB (fun a=>decide (a<=0)) f.2.1&&allB (fun a=>decide (a=0)) f.2.2)
theorem dt_le(hv:∀i,0<=v i)(x:List Int):∀i,allB (fun a=>decide (a<=0)) x=true->dt v x i<=0:=by
 induction x with|nil=>exact fun _ _=>Int.le_refl 0|cons a x ih=>exact fun i h=>Int.add_le_add (Int.mul_nonpos_of_nonpos_of_nonneg (zW (and_l h)) (hv i)) (ih (i+1) (and_r h))
theorem dt_eq(x:List Int):∀i,allB (fun a=>decide (a=0)) x=true->dt v x i=0:=by
 induction x with|nil=>exact fun _ _=>rfl|cons a x ih=>exact fun i h=>(congr (zG HAdd.hAdd ((zG (.*v i) (zW (and_l h))).trans (Int.zero_mul _))) (ih (i+1) (and_r h)):a*v i+dt v x (i+1)=0+0)
theorem Cx.bad(e:Cx){f:LF}(h:f.bad=true):e.ev f<0:=Int.lt_of_le_of_lt (Int.add_le_add_left (Int.le_trans (Int.add_le_add (dt_le (fun i=>Int.natCast_nonneg _) _ 0 (and_l (and_r h))) (Int.le_of_eq (dt_eq _ 0 (and_r (and_r h))))) (Int.le_refl 0)) f.1) (Int.lt_of_le_of_lt (Int.le_of_eq (Int.add_zero f.1)) (zW (and_l h)))
def Cx.Imp(e:Cx)(g:Prop)(l:List LP):Prop:=l.rec g fun p _ r=>e.den p->r
theorem Cx.imp_of(e:Cx)(l:List LP):((∀s,e.S (sumF s l))->g)->e.Imp g l:=by
 induction l with|nil=>exact fun h=>h fun _=>Int.le_refl 0|cons p l ih=>exact fun h hp=>ih fun hl=>h fun s=>Int.le_trans (Int.add_nonneg (e.hf s p hp) (hl s)) (Int.le_of_eq (e.ad _ _).symm)
noncomputable def LP.neg:LP->LP|.mk t k x y=>nt (.mk 6 k x y) [.mk 1 k y x,.mk 0 k y x,.mk 1 k x y,.mk 4 k y x,.mk 3 k y x,.mk 4 k x y] t
noncomputable def LP.neg2:LP->LP|.mk t k x y=>nt (.mk 6 k x y) [.mk 1 k y x,.mk 0 k y x,.mk 1 k y x,.mk 4 k y x,.mk 3 k y x,.mk 4 k y x] t
theorem Cx.em(e:Cx)(p:LP):e.den p\/((∀s,e.S (p.neg.f s))\/∀s,e.S (p.neg2.f s)):=by
 obtain⟨t,k,x,y⟩:=p;have F:∀q:LP,e.den q->∀s,e.S (q.f s):=fun q h s=>e.hf s q h;match t with
 |0=>exact(Nat.lt_or_ge _ _).symm.imp_right fun h=>.inl (F (.mk 1 k y x) h)|1=>exact(Nat.lt_or_ge _ _).imp_right fun h=>.inl (F (.mk 0 k y x) h)|2=>exact(Nat.lt_trichotomy (x.N e.c) (y.N e.c)).elim (fun h=>.inr (.inl (F (.mk 1 k x y) h))) (.imp_right fun h=>.inr (F (.mk 1 k y x) h))|3=>exact(Classical.em _).imp_right fun h=>.inl (F (.mk 4 k y x) (Int.lt_of_not_ge h))|4=>exact(Classical.em _).imp_right fun h=>.inl (F (.mk 3 k y x) (Int.not_lt.mp h))|5=>exact(Int.lt_trichotomy (x.Z e.c e.z) (y.Z e.c e.z)).elim (fun h=>.inr (.inl (F (.mk 4 k x y) h))) (.imp_right fun h=>.inr (F (.mk 4 k y x) h))|_+6=>exact .inr (.inl fun s=>Int.le_refl 0)
noncomputable def chk(p:LP)(l:List LP):Bool:=((p.neg.f 1).ad (sumF 1 l)).bad&&((p.neg2.f 256).ad (sumF 256 l)).bad
def Cx.L(e:Cx)(l:List LP):Prop:=l.rec True fun p l _=>chk p l=true->e.Imp (e.den p) l
noncomputable def dec(f:Nat):Nat->List LX->List LP:=f.rec (fun _ _=>[]) fun _ r n s=>nt [] [r (n/256) (.v 0 (n/16%16)::s),r (n/256) (.v 1 (n/16%16)::s),r (n/256) (.v 2 (n/16%16)::s),s.rec [] fun a s _=>r (n/256) (.v 2 (16*a.K+n/16%16)::s),s.rec [] fun y s _=>s.rec [] fun x s _=>r (n/256) (.o (n/16%16) x y::s),s.rec [] fun y s _=>s.rec [] fun x s _=>.mk (n/16%16) (n/256%65536) x y::r (n/16777216) s,s.rec [] fun y s _=>s.rec [] fun x s _=>.mk (n/16%16) 33153 x y::r (n/256) s] (n%16)
theorem lin(c:List Nat)(z:List Int)(n:Nat):(Cx.mk c z).L (dec 300 n []):=by
 generalize dec 300 n []=l;cases l with
 |nil=>trivial|cons p l=>
  refine fun h=>Cx.imp_of _ l fun hl=>?_;have X:∀{a b:LF},(a.ad b).bad=true->(Cx.mk c z).S a->(Cx.mk c z).S b->False:=fun h1 ha hb=>Int.not_lt.mpr (Int.le_trans (Int.add_nonneg ha hb) (Int.le_of_eq (Cx.ad _ _ _).symm)) (Cx.bad _ h1);exact((Cx.mk c z).em p).elim id fun q=>(q.elim (fun q=>X (and_l h) (q 1) (hl 1)) fun q=>X (and_r h) (q 256) (hl 256)).elim
theorem lA(n:Nat):(Cx.mk [a] []).L (dec 300 n []):=lin _ _ n
theorem lB(n:Nat):(Cx.mk [a,b] []).L (dec 300 n []):=lin _ _ n
theorem lC{c:Nat}(n:Nat):(Cx.mk [a,b,c] []).L (dec 300 n []):=lin _ _ n
theorem lD{c d:Nat}(n:Nat):(Cx.mk [a,b,c,d] []).L (dec 300 n []):=lin _ _ n
theorem lE{c d e:Nat}(n:Nat):(Cx.mk [a,b,c,d,e] []).L (dec 300 n []):=lin _ _ n
theorem lZ(n:Nat):(Cx.mk [] [z]).L (dec 300 n []):=lin _ _ n
theorem lY(n:Nat):(Cx.mk [a] [z]).L (dec 300 n []):=lin _ _ n
theorem lX(n:Nat):(Cx.mk [a,b] [z]).L (dec 300 n []):=lin _ _ n
theorem xa2{p0:Prop}{p2:Prop}(h:p0/\p1/\p2)(k:p0->p1->p2->g):g:=by obtain⟨y0,y1,y2⟩:=h;exact k y0 y1 y2
theorem xea{α0:Sort _}{p0:α0->Prop}{p1:α0->Prop}(h:∃v0,p0 v0/\p1 v0)(k:∀v0,p0 v0->p1 v0->g):g:=by obtain⟨y0,y1,y2⟩:=h;exact k y0 y1 y2
theorem xe2{α0:Sort _}{α1:Sort _}{p0:α0->α1->Prop}(h:∃v0,∃v1,p0 v0 v1)(k:∀v0,∀v1,p0 v0 v1->g):g:=by obtain⟨y0,y1,y2⟩:=h;exact k y0 y1 y2
theorem xa3{p0:Prop}{p2:Prop}(h:p0/\p1/\p2/\p3)(k:p0->p1->p2->p3->g):g:=by obtain⟨y0,y1,y2,y3⟩:=h;exact k y0 y1 y2 y3
theorem xaea{α0:Sort _}{p0:Prop}{p1:α0->Prop}{p2:α0->Prop}(h:p0/\∃v0,p1 v0/\p2 v0)(k:p0->∀v0,p1 v0->p2 v0->g):g:=by obtain⟨y0,y1,y2,y3⟩:=h;exact k y0 y1 y2 y3
theorem xea2{α0:Sort _}{p0:α0->Prop}{p1:α0->Prop}{p2:α0->Prop}(h:∃v0,p0 v0/\p1 v0/\p2 v0)(k:∀v0,p0 v0->p1 v0->p2 v0->g):g:=by obtain⟨y0,y1,y2,y3⟩:=h;exact k y0 y1 y2 y3
theorem xeae{α0:Sort _}{α1:Sort _}{p0:α0->Prop}{p1:α0->α1->Prop}(h:∃v0,p0 v0/\∃v1,p1 v0 v1)(k:∀v0,p0 v0->∀v1,p1 v0 v1->g):g:=by obtain⟨y0,y1,y2,y3⟩:=h;exact k y0 y1 y2 y3
theorem xe2a{α0:Sort _}{α1:Sort _}{p0:α0->α1->Prop}{p1:α0->α1->Prop}(h:∃v0,∃v1,p0 v0 v1/\p1 v0 v1)(k:∀v0,∀v1,p0 v0 v1->p1 v0 v1->g):g:=by obtain⟨y0,y1,y2,y3⟩:=h;exact k y0 y1 y2 y3
theorem xe3{α0:Sort _}{α1:Sort _}{α2:Sort _}{p0:α0->α1->α2->Prop}(h:∃v0,∃v1,∃v2,p0 v0 v1 v2)(k:∀v0,∀v1,∀v2,p0 v0 v1 v2->g):g:=by obtain⟨y0,y1,y2,y3⟩:=h;exact k y0 y1 y2 y3
theorem xa4{p0:Prop}{p2:Prop}(h:p0/\p1/\p2/\p3/\p4)(k:p0->p1->p2->p3->p4->g):g:=by obtain⟨y0,y1,y2,y3,y4⟩:=h;exact k y0 y1 y2 y3 y4
theorem xaea2{α0:Sort _}{p0:Prop}{p1:α0->Prop}{p2:α0->Prop}{p3:α0->Prop}(h:p0/\∃v0,p1 v0/\p2 v0/\p3 v0)(k:p0->∀v0,p1 v0->p2 v0->p3 v0->g):g:=by obtain⟨y0,y1,y2,y3,y4⟩:=h;exact k y0 y1 y2 y3 y4
theorem xae2a{α0:Sort _}{α1:Sort _}{p0:Prop}{p1:α0->α1->Prop}{p2:α0->α1->Prop}(h:p0/\∃v0,∃v1,p1 v0 v1/\p2 v0 v1)(k:p0->∀v0,∀v1,p1 v0 v1->p2 v0 v1->g):g:=by obtain⟨y0,y1,y2,y3,y4⟩:=h;exact k y0 y1 y2 y3 y4
theorem xea3{α0:Sort _}{p0:α0->Prop}{p1:α0->Prop}{p2:α0->Prop}{p3:α0->Prop}(h:∃v0,p0 v0/\p1 v0/\p2 v0/\p3 v0)(k:∀v0,p0 v0->p1 v0->p2 v0->p3 v0->g):g:=by obtain⟨y0,y1,y2,y3,y4⟩:=h;exact k y0 y1 y2 y3 y4
theorem xe2a2{α0:Sort _}{α1:Sort _}{p0:α0->α1->Prop}{p1:α0->α1->Prop}{p2:α0->α1->Prop}(h:∃v0,∃v1,p0 v0 v1/\p1 v0 v1/\p2 v0 v1)(k:∀v0,∀v1,p0 v0 v1->p1 v0 v1->p2 v0 v1->g):g:=by obtain⟨y0,y1,y2,y3,y4⟩:=h;exact k y0 y1 y2 y3 y4
theorem xe3a{α0:Sort _}{α1:Sort _}{α2:Sort _}{p0:α0->α1->α2->Prop}{p1:α0->α1->α2->Prop}(h:∃v0,∃v1,∃v2,p0 v0 v1 v2/\p1 v0 v1 v2)(k:∀v0,∀v1,∀v2,p0 v0 v1 v2->p1 v0 v1 v2->g):g:=by obtain⟨y0,y1,y2,y3,y4⟩:=h;exact k y0 y1 y2 y3 y4
theorem xa5{p0:Prop}{p2:Prop}(h:p0/\p1/\p2/\p3/\p4/\p5)(k:p0->p1->p2->p3->p4->p5->g):g:=by obtain⟨y0,y1,y2,y3,y4,y5⟩:=h;exact k y0 y1 y2 y3 y4 y5
theorem xa2ea2{α0:Sort _}{p0:Prop}{p2:α0->Prop}{p3:α0->Prop}{p4:α0->Prop}(h:p0/\p1/\∃v0,p2 v0/\p3 v0/\p4 v0)(k:p0->p1->∀v0,p2 v0->p3 v0->p4 v0->g):g:=by obtain⟨y0,y1,y2,y3,y4,y5⟩:=h;exact k y0 y1 y2 y3 y4 y5
theorem xea4{α0:Sort _}{p0:α0->Prop}{p1:α0->Prop}{p2:α0->Prop}{p3:α0->Prop}{p4:α0->Prop}(h:∃v0,p0 v0/\p1 v0/\p2 v0/\p3 v0/\p4 v0)(k:∀v0,p0 v0->p1 v0->p2 v0->p3 v0->p4 v0->g):g:=by obtain⟨y0,y1,y2,y3,y4,y5⟩:=h;exact k y0 y1 y2 y3 y4 y5
theorem xe2a3{α0:Sort _}{α1:Sort _}{p0:α0->α1->Prop}{p1:α0->α1->Prop}{p2:α0->α1->Prop}{p3:α0->α1->Prop}(h:∃v0,∃v1,p0 v0 v1/\p1 v0 v1/\p2 v0 v1/\p3 v0 v1)(k:∀v0,∀v1,p0 v0 v1->p1 v0 v1->p2 v0 v1->p3 v0 v1->g):g:=by obtain⟨y0,y1,y2,y3,y4,y5⟩:=h;exact k y0 y1 y2 y3 y4 y5
theorem xe3a2{α0:Sort _}{α1:Sort _}{α2:Sort _}{p0:α0->α1->α2->Prop}{p1:α0->α1->α2->Prop}{p2:α0->α1->α2->Prop}(h:∃v0,∃v1,∃v2,p0 v0 v1 v2/\p1 v0 v1 v2/\p2 v0 v1 v2)(k:∀v0,∀v1,∀v2,p0 v0 v1 v2->p1 v0 v1 v2->p2 v0 v1 v2->g):g:=by obtain⟨y0,y1,y2,y3,y4,y5⟩:=h;exact k y0 y1 y2 y3 y4 y5
theorem xea5{α0:Sort _}{p0:α0->Prop}{p1:α0->Prop}{p2:α0->Prop}{p3:α0->Prop}{p4:α0->Prop}{p5:α0->Prop}(h:∃v0,p0 v0/\p1 v0/\p2 v0/\p3 v0/\p4 v0/\p5 v0)(k:∀v0,p0 v0->p1 v0->p2 v0->p3 v0->p4 v0->p5 v0->g):g:=by obtain⟨y0,y1,y2,y3,y4,y5,y6⟩:=h;exact k y0 y1 y2 y3 y4 y5 y6
theorem xe3a3{α0:Sort _}{α1:Sort _}{α2:Sort _}{p0:α0->α1->α2->Prop}{p1:α0->α1->α2->Prop}{p2:α0->α1->α2->Prop}{p3:α0->α1->α2->Prop}(h:∃v0,∃v1,∃v2,p0 v0 v1 v2/\p1 v0 v1 v2/\p2 v0 v1 v2/\p3 v0 v1 v2)(k:∀v0,∀v1,∀v2,p0 v0 v1 v2->p1 v0 v1 v2->p2 v0 v1 v2->p3 v0 v1 v2->g):g:=by obtain⟨y0,y1,y2,y3,y4,y5,y6⟩:=h;exact k y0 y1 y2 y3 y4 y5 y6
theorem xa7{p0:Prop}{p2:Prop}{p6:Prop}{p7:Prop}(h:p0/\p1/\p2/\p3/\p4/\p5/\p6/\p7)(k:p0->p1->p2->p3->p4->p5->p6->p7->g):g:=by obtain⟨y0,y1,y2,y3,y4,y5,y6,y7⟩:=h;exact k y0 y1 y2 y3 y4 y5 y6 y7
theorem xe2a5{α0:Sort _}{α1:Sort _}{p0:α0->α1->Prop}{p1:α0->α1->Prop}{p2:α0->α1->Prop}{p3:α0->α1->Prop}{p4:α0->α1->Prop}{p5:α0->α1->Prop}(h:∃v0,∃v1,p0 v0 v1/\p1 v0 v1/\p2 v0 v1/\p3 v0 v1/\p4 v0 v1/\p5 v0 v1)(k:∀v0,∀v1,p0 v0 v1->p1 v0 v1->p2 v0 v1->p3 v0 v1->p4 v0 v1->p5 v0 v1->g):g:=by obtain⟨y0,y1,y2,y3,y4,y5,y6,y7⟩:=h;exact k y0 y1 y2 y3 y4 y5 y6 y7
theorem xe3a4{α0:Sort _}{α1:Sort _}{α2:Sort _}{p0:α0->α1->α2->Prop}{p1:α0->α1->α2->Prop}{p2:α0->α1->α2->Prop}{p3:α0->α1->α2->Prop}{p4:α0->α1->α2->Prop}(h:∃v0,∃v1,∃v2,p0 v0 v1 v2/\p1 v0 v1 v2/\p2 v0 v1 v2/\p3 v0 v1 v2/\p4 v0 v1 v2)(k:∀v0,∀v1,∀v2,p0 v0 v1 v2->p1 v0 v1 v2->p2 v0 v1 v2->p3 v0 v1 v2->p4 v0 v1 v2->g):g:=by obtain⟨y0,y1,y2,y3,y4,y5,y6,y7⟩:=h;exact k y0 y1 y2 y3 y4 y5 y6 y7
theorem xe6a{α0:Sort _}{α1:Sort _}{α2:Sort _}{α3:Sort _}{α4:Sort _}{α5:Sort _}{p0:α0->α1->α2->α3->α4->α5->Prop}{p1:α0->α1->α2->α3->α4->α5->Prop}(h:∃v0,∃v1,∃v2,∃v3,∃v4,∃v5,p0 v0 v1 v2 v3 v4 v5/\p1 v0 v1 v2 v3 v4 v5)(k:∀v0,∀v1,∀v2,∀v3,∀v4,∀v5,p0 v0 v1 v2 v3 v4 v5->p1 v0 v1 v2 v3 v4 v5->g):g:=by obtain⟨y0,y1,y2,y3,y4,y5,y6,y7⟩:=h;exact k y0 y1 y2 y3 y4 y5 y6 y7
theorem xe2a6{α0:Sort _}{α1:Sort _}{p0:α0->α1->Prop}{p1:α0->α1->Prop}{p2:α0->α1->Prop}{p3:α0->α1->Prop}{p4:α0->α1->Prop}{p5:α0->α1->Prop}{p6:α0->α1->Prop}(h:∃v0,∃v1,p0 v0 v1/\p1 v0 v1/\p2 v0 v1/\p3 v0 v1/\p4 v0 v1/\p5 v0 v1/\p6 v0 v1)(k:∀v0,∀v1,p0 v0 v1->p1 v0 v1->p2 v0 v1->p3 v0 v1->p4 v0 v1->p5 v0 v1->p6 v0 v1->g):g:=by obtain⟨y0,y1,y2,y3,y4,y5,y6,y7,y8⟩:=h;exact k y0 y1 y2 y3 y4 y5 y6 y7 y8
theorem xe3a5{α0:Sort _}{α1:Sort _}{α2:Sort _}{p0:α0->α1->α2->Prop}{p1:α0->α1->α2->Prop}{p2:α0->α1->α2->Prop}{p3:α0->α1->α2->Prop}{p4:α0->α1->α2->Prop}{p5:α0->α1->α2->Prop}(h:∃v0,∃v1,∃v2,p0 v0 v1 v2/\p1 v0 v1 v2/\p2 v0 v1 v2/\p3 v0 v1 v2/\p4 v0 v1 v2/\p5 v0 v1 v2)(k:∀v0,∀v1,∀v2,p0 v0 v1 v2->p1 v0 v1 v2->p2 v0 v1 v2->p3 v0 v1 v2->p4 v0 v1 v2->p5 v0 v1 v2->g):g:=by obtain⟨y0,y1,y2,y3,y4,y5,y6,y7,y8⟩:=h;exact k y0 y1 y2 y3 y4 y5 y6 y7 y8
theorem xe6a2{α0:Sort _}{α1:Sort _}{α2:Sort _}{α3:Sort _}{α4:Sort _}{α5:Sort _}{p0:α0->α1->α2->α3->α4->α5->Prop}{p1:α0->α1->α2->α3->α4->α5->Prop}{p2:α0->α1->α2->α3->α4->α5->Prop}(h:∃v0,∃v1,∃v2,∃v3,∃v4,∃v5,p0 v0 v1 v2 v3 v4 v5/\p1 v0 v1 v2 v3 v4 v5/\p2 v0 v1 v2 v3 v4 v5)(k:∀v0,∀v1,∀v2,∀v3,∀v4,∀v5,p0 v0 v1 v2 v3 v4 v5->p1 v0 v1 v2 v3 v4 v5->p2 v0 v1 v2 v3 v4 v5->g):g:=by obtain⟨y0,y1,y2,y3,y4,y5,y6,y7,y8⟩:=h;exact k y0 y1 y2 y3 y4 y5 y6 y7 y8
theorem xe2a6e{α0:Sort _}{α1:Sort _}{α2:Sort _}{p0:α0->α1->Prop}{p1:α0->α1->Prop}{p2:α0->α1->Prop}{p3:α0->α1->Prop}{p4:α0->α1->Prop}{p5:α0->α1->Prop}{p6:α0->α1->α2->Prop}(h:∃v0,∃v1,p0 v0 v1/\p1 v0 v1/\p2 v0 v1/\p3 v0 v1/\p4 v0 v1/\p5 v0 v1/\∃v2,p6 v0 v1 v2)(k:∀v0,∀v1,p0 v0 v1->p1 v0 v1->p2 v0 v1->p3 v0 v1->p4 v0 v1->p5 v0 v1->∀v2,p6 v0 v1 v2->g):g:=by obtain⟨y0,y1,y2,y3,y4,y5,y6,y7,y8,y9⟩:=h;exact k y0 y1 y2 y3 y4 y5 y6 y7 y8 y9
theorem xe3a6{α0:Sort _}{α1:Sort _}{α2:Sort _}{p0:α0->α1->α2->Prop}{p1:α0->α1->α2->Prop}{p2:α0->α1->α2->Prop}{p3:α0->α1->α2->Prop}{p4:α0->α1->α2->Prop}{p5:α0->α1->α2->Prop}{p6:α0->α1->α2->Prop}(h:∃v0,∃v1,∃v2,p0 v0 v1 v2/\p1 v0 v1 v2/\p2 v0 v1 v2/\p3 v0 v1 v2/\p4 v0 v1 v2/\p5 v0 v1 v2/\p6 v0 v1 v2)(k:∀v0,∀v1,∀v2,p0 v0 v1 v2->p1 v0 v1 v2->p2 v0 v1 v2->p3 v0 v1 v2->p4 v0 v1 v2->p5 v0 v1 v2->p6 v0 v1 v2->g):g:=by obtain⟨y0,y1,y2,y3,y4,y5,y6,y7,y8,y9⟩:=h;exact k y0 y1 y2 y3 y4 y5 y6 y7 y8 y9
theorem xe4a5{α0:Sort _}{α1:Sort _}{α2:Sort _}{α3:Sort _}{p0:α0->α1->α2->α3->Prop}{p1:α0->α1->α2->α3->Prop}{p2:α0->α1->α2->α3->Prop}{p3:α0->α1->α2->α3->Prop}{p4:α0->α1->α2->α3->Prop}{p5:α0->α1->α2->α3->Prop}(h:∃v0,∃v1,∃v2,∃v3,p0 v0 v1 v2 v3/\p1 v0 v1 v2 v3/\p2 v0 v1 v2 v3/\p3 v0 v1 v2 v3/\p4 v0 v1 v2 v3/\p5 v0 v1 v2 v3)(k:∀v0,∀v1,∀v2,∀v3,p0 v0 v1 v2 v3->p1 v0 v1 v2 v3->p2 v0 v1 v2 v3->p3 v0 v1 v2 v3->p4 v0 v1 v2 v3->p5 v0 v1 v2 v3->g):g:=by obtain⟨y0,y1,y2,y3,y4,y5,y6,y7,y8,y9⟩:=h;exact k y0 y1 y2 y3 y4 y5 y6 y7 y8 y9
theorem xea4e2a3{α0:Sort _}{α1:Sort _}{α2:Sort _}{p0:α0->Prop}{p1:α0->Prop}{p2:α0->Prop}{p3:α0->Prop}{p4:α0->α1->α2->Prop}{p5:α0->α1->α2->Prop}{p6:α0->α1->α2->Prop}{p7:α0->α1->α2->Prop}(h:∃v0,p0 v0/\p1 v0/\p2 v0/\p3 v0/\∃v1,∃v2,p4 v0 v1 v2/\p5 v0 v1 v2/\p6 v0 v1 v2/\p7 v0 v1 v2)(k:∀v0,p0 v0->p1 v0->p2 v0->p3 v0->∀v1,∀v2,p4 v0 v1 v2->p5 v0 v1 v2->p6 v0 v1 v2->p7 v0 v1 v2->g):g:=by obtain⟨y0,y1,y2,y3,y4,y5,y6,y7,y8,y9,y10⟩:=h;exact k y0 y1 y2 y3 y4 y5 y6 y7 y8 y9 y10
theorem xe2a2e3a3{α0:Sort _}{α1:Sort _}{α2:Sort _}{α3:Sort _}{α4:Sort _}{p0:α0->α1->Prop}{p1:α0->α1->Prop}{p2:α0->α1->α2->α3->α4->Prop}{p3:α0->α1->α2->α3->α4->Prop}{p4:α0->α1->α2->α3->α4->Prop}{p5:α0->α1->α2->α3->α4->Prop}(h:∃v0,∃v1,p0 v0 v1/\p1 v0 v1/\∃v2,∃v3,∃v4,p2 v0 v1 v2 v3 v4/\p3 v0 v1 v2 v3 v4/\p4 v0 v1 v2 v3 v4/\p5 v0 v1 v2 v3 v4)(k:∀v0,∀v1,p0 v0 v1->p1 v0 v1->∀v2,∀v3,∀v4,p2 v0 v1 v2 v3 v4->p3 v0 v1 v2 v3 v4->p4 v0 v1 v2 v3 v4->p5 v0 v1 v2 v3 v4->g):g:=by obtain⟨y0,y1,y2,y3,y4,y5,y6,y7,y8,y9,y10⟩:=h;exact k y0 y1 y2 y3 y4 y5 y6 y7 y8 y9 y10
theorem xe7a3{α0:Sort _}{α1:Sort _}{α2:Sort _}{α3:Sort _}{α4:Sort _}{α5:Sort _}{α6:Sort _}{p0:α0->α1->α2->α3->α4->α5->α6->Prop}{p1:α0->α1->α2->α3->α4->α5->α6->Prop}{p2:α0->α1->α2->α3->α4->α5->α6->Prop}{p3:α0->α1->α2->α3->α4->α5->α6->Prop}(h:∃v0,∃v1,∃v2,∃v3,∃v4,∃v5,∃v6,p0 v0 v1 v2 v3 v4 v5 v6/\p1 v0 v1 v2 v3 v4 v5 v6/\p2 v0 v1 v2 v3 v4 v5 v6/\p3 v0 v1 v2 v3 v4 v5 v6)(k:∀v0,∀v1,∀v2,∀v3,∀v4,∀v5,∀v6,p0 v0 v1 v2 v3 v4 v5 v6->p1 v0 v1 v2 v3 v4 v5 v6->p2 v0 v1 v2 v3 v4 v5 v6->p3 v0 v1 v2 v3 v4 v5 v6->g):g:=by obtain⟨y0,y1,y2,y3,y4,y5,y6,y7,y8,y9,y10⟩:=h;exact k y0 y1 y2 y3 y4 y5 y6 y7 y8 y9 y10
theorem xe8a11e{α0:Sort _}{α1:Sort _}{α2:Sort _}{α3:Sort _}{α4:Sort _}{α5:Sort _}{α6:Sort _}{α7:Sort _}{α8:Sort _}{p0:α0->α1->α2->α3->α4->α5->α6->α7->Prop}{p1:α0->α1->α2->α3->α4->α5->α6->α7->Prop}{p2:α0->α1->α2->α3->α4->α5->α6->α7->Prop}{p3:α0->α1->α2->α3->α4->α5->α6->α7->Prop}{p4:α0->α1->α2->α3->α4->α5->α6->α7->Prop}{p5:α0->α1->α2->α3->α4->α5->α6->α7->Prop}{p6:α0->α1->α2->α3->α4->α5->α6->α7->Prop}{p7:α0->α1->α2->α3->α4->α5->α6->α7->Prop}{p8:α0->α1->α2->α3->α4->α5->α6->α7->Prop}{p9:α0->α1->α2->α3->α4->α5->α6->α7->Prop}{p10:α0->α1->α2->α3->α4->α5->α6->α7->Prop}{p11:α0->α1->α2->α3->α4->α5->α6->α7->α8->Prop}(h:∃v0,∃v1,∃v2,∃v3,∃v4,∃v5,∃v6,∃v7,p0 v0 v1 v2 v3 v4 v5 v6 v7/\p1 v0 v1 v2 v3 v4 v5 v6 v7/\p2 v0 v1 v2 v3 v4 v5 v6 v7/\p3 v0 v1 v2 v3 v4 v5 v6 v7/\p4 v0 v1 v2 v3 v4 v5 v6 v7/\p5 v0 v1 v2 v3 v4 v5 v6 v7/\p6 v0 v1 v2 v3 v4 v5 v6 v7/\p7 v0 v1 v2 v3 v4 v5 v6 v7/\p8 v0 v1 v2 v3 v4 v5 v6 v7/\p9 v0 v1 v2 v3 v4 v5 v6 v7/\p10 v0 v1 v2 v3 v4 v5 v6 v7/\∃v8,p11 v0 v1 v2 v3 v4 v5 v6 v7 v8)(k:∀v0,∀v1,∀v2,∀v3,∀v4,∀v5,∀v6,∀v7,p0 v0 v1 v2 v3 v4 v5 v6 v7->p1 v0 v1 v2 v3 v4 v5 v6 v7->p2 v0 v1 v2 v3 v4 v5 v6 v7->p3 v0 v1 v2 v3 v4 v5 v6 v7->p4 v0 v1 v2 v3 v4 v5 v6 v7->p5 v0 v1 v2 v3 v4 v5 v6 v7->p6 v0 v1 v2 v3 v4 v5 v6 v7->p7 v0 v1 v2 v3 v4 v5 v6 v7->p8 v0 v1 v2 v3 v4 v5 v6 v7->p9 v0 v1 v2 v3 v4 v5 v6 v7->p10 v0 v1 v2 v3 v4 v5 v6 v7->∀v8,p11 v0 v1 v2 v3 v4 v5 v6 v7 v8->g):g:=by obtain⟨y0,y1,y2,y3,y4,y5,y6,y7,y8,y9,y10,y11,y12,y13,y14,y15,y16,y17,y18,y19,y20⟩:=h;exact k y0 y1 y2 y3 y4 y5 y6 y7 y8 y9 y10 y11 y12 y13 y14 y15 y16 y17 y18 y19 y20
theorem xa2ea{α0:Sort _}{p0:Prop}{p2:α0->Prop}{p3:α0->Prop}(h:p0/\p1/\∃v0,p2 v0/\p3 v0)(k:p0->p1->∀v0,p2 v0->p3 v0->g):g:=by obtain⟨y0,y1,y2,y3,y4⟩:=h;exact k y0 y1 y2 y3 y4
theorem xe4a{α0:Sort _}{α1:Sort _}{α2:Sort _}{α3:Sort _}{p0:α0->α1->α2->α3->Prop}{p1:α0->α1->α2->α3->Prop}(h:∃v0,∃v1,∃v2,∃v3,p0 v0 v1 v2 v3/\p1 v0 v1 v2 v3)(k:∀v0,∀v1,∀v2,∀v3,p0 v0 v1 v2 v3->p1 v0 v1 v2 v3->g):g:=by obtain⟨y0,y1,y2,y3,y4,y5⟩:=h;exact k y0 y1 y2 y3 y4 y5
theorem xe5{α0:Sort _}{α1:Sort _}{α2:Sort _}{α3:Sort _}{α4:Sort _}{p0:α0->α1->α2->α3->α4->Prop}(h:∃v0,∃v1,∃v2,∃v3,∃v4,p0 v0 v1 v2 v3 v4)(k:∀v0,∀v1,∀v2,∀v3,∀v4,p0 v0 v1 v2 v3 v4->g):g:=by obtain⟨y0,y1,y2,y3,y4,y5⟩:=h;exact k y0 y1 y2 y3 y4 y5
theorem xae3a3{α0:Sort _}{α1:Sort _}{α2:Sort _}{p0:Prop}{p1:α0->α1->α2->Prop}{p2:α0->α1->α2->Prop}{p3:α0->α1->α2->Prop}{p4:α0->α1->α2->Prop}(h:p0/\∃v0,∃v1,∃v2,p1 v0 v1 v2/\p2 v0 v1 v2/\p3 v0 v1 v2/\p4 v0 v1 v2)(k:p0->∀v0,∀v1,∀v2,p1 v0 v1 v2->p2 v0 v1 v2->p3 v0 v1 v2->p4 v0 v1 v2->g):g:=by obtain⟨y0,y1,y2,y3,y4,y5,y6,y7⟩:=h;exact k y0 y1 y2 y3 y4 y5 y6 y7
theorem xe4a4{α0:Sort _}{α1:Sort _}{α2:Sort _}{α3:Sort _}{p0:α0->α1->α2->α3->Prop}{p1:α0->α1->α2->α3->Prop}{p2:α0->α1->α2->α3->Prop}{p3:α0->α1->α2->α3->Prop}{p4:α0->α1->α2->α3->Prop}(h:∃v0,∃v1,∃v2,∃v3,p0 v0 v1 v2 v3/\p1 v0 v1 v2 v3/\p2 v0 v1 v2 v3/\p3 v0 v1 v2 v3/\p4 v0 v1 v2 v3)(k:∀v0,∀v1,∀v2,∀v3,p0 v0 v1 v2 v3->p1 v0 v1 v2 v3->p2 v0 v1 v2 v3->p3 v0 v1 v2 v3->p4 v0 v1 v2 v3->g):g:=by obtain⟨y0,y1,y2,y3,y4,y5,y6,y7,y8⟩:=h;exact k y0 y1 y2 y3 y4 y5 y6 y7 y8
theorem xe4a6{α0:Sort _}{α1:Sort _}{α2:Sort _}{α3:Sort _}{p0:α0->α1->α2->α3->Prop}{p1:α0->α1->α2->α3->Prop}{p2:α0->α1->α2->α3->Prop}{p3:α0->α1->α2->α3->Prop}{p4:α0->α1->α2->α3->Prop}{p5:α0->α1->α2->α3->Prop}{p6:α0->α1->α2->α3->Prop}(h:∃v0,∃v1,∃v2,∃v3,p0 v0 v1 v2 v3/\p1 v0 v1 v2 v3/\p2 v0 v1 v2 v3/\p3 v0 v1 v2 v3/\p4 v0 v1 v2 v3/\p5 v0 v1 v2 v3/\p6 v0 v1 v2 v3)(k:∀v0,∀v1,∀v2,∀v3,p0 v0 v1 v2 v3->p1 v0 v1 v2 v3->p2 v0 v1 v2 v3->p3 v0 v1 v2 v3->p4 v0 v1 v2 v3->p5 v0 v1 v2 v3->p6 v0 v1 v2 v3->g):g:=by obtain⟨y0,y1,y2,y3,y4,y5,y6,y7,y8,y9,y10⟩:=h;exact k y0 y1 y2 y3 y4 y5 y6 y7 y8 y9 y10
section
open PySem PySem.W PyProof.Rows
variable{B:Base}{A:Around}{nc nc':NC}{env cenv:Env}{d k:Nat}{D:Addr}{μ:List (Option Val)}{μc μ':Mu}{S S':AS}{Q:VQ}{s s':Shared}{I I':Interp}{wr:List Addr}{acc:List Val}{e:Expr}{p:Place2}{j:Nat}{x:List Val}{v:List Value}{n:Nat}{h:Heap}{pos:Pos}{o:HObj}{y:Val}{es:List DictEntry}{t:Tag}{xs r:List Val}{h':Heap}{i:Nat}{is:List Nat}{W:Addr->Prop}{a:Addr}{scope:Scope}{vs:List Value}{target:Expr}{K:AS->Prop}{elt:Expr}{m:Str->Option Value}{b:Bool}{cm:Str->Option Value}{κ:Type}{f:Fn}{it:Addr}{items:Array Value}{key:Val->Int}{l:X}{r':List Val}{α:Type}{I₁:Interp}{S₁:AS}{kd:KV}{s₁:Shared}{L:Addr}{ifs:List Expr}{n':Nat}{at_:At->Option Val}{ep:Nat}{prog:Program}{u:Option Value}{M:Tag->Nat->HObj->Prop}{av:Value}{c:Cls}{iter:Expr}{itv:Value}{ts:List Expr}{E:Value->Shared->Prop}{T:Mu->AS->(Bool->AS->Prop)->Prop}{apos:Pos}{body:List Stmt}{name:Str}{o':HObj}{iter1:Expr}{lt:Nat->Nat->Bool}{neg:Bool}{ro:Rp}{src:Sr}{z:Val}{C:Addr}{I₀:Interp}{cl:List (Str×Addr)}{e':Expr}{e1:Nat}{ex:List Addr}{first:List Value}{lt':Nat->Nat->Bool}{p' p1:Pos}{ri:Rp}{s₀:Shared}{target1:Expr}{test:Xs}{I₂ I₅:Interp}{Q':VQ}{S₀ S₅:AS}{depth:Nat}{dfl:List Value}{dv:List Val}{elts:List Expr}{fd:FuncData}{gens:List Comprehension}{h₀:Heap}{inner:Val->List Val->AS->(List Val->AS->Prop)->Prop}{kk:Nat}{ks:List Value}{kws:List Keyword}{pl:Sem Bool}{rr:List Expr}{stmts:List Stmt}{s₂ s₅:Shared}{target0 tg:Expr}{vs0:List Val}{zs:List (Addr×Obj)}{kS:Addr}
set_option genCtorIdx true in set_option genInjectivity true in inductive CT where|core|assigns|levels|reasons|spots|phases|watches|watch(p:Nat)|heapO|hAct|hHeap|hPlace|trail|starts|clauses|clause(i:Nat)|steps|drop|acts|seen|usteps|proof|psteps|pnamed deriving DecidableEq
set_option genCtorIdx true in set_option genInjectivity true in inductive Tag where|core(k:Nat)(x:CT)|tmp(lvl i:Nat)|law(i:Nat)deriving DecidableEq
inductive Val where|none|bool(b:Bool)|int(i:Int)|str(s:Str)|tup(vs:List Val)|loc(t:Tag)(v:Nat)|raw(v:Value)deriving Inhabited
noncomputable def Val.ctorIdx(x:Val):Nat:=x.casesOn 0 (fun _=>1) (fun _=>2) (fun _=>3) (fun _=>4) (fun _ _=>5) fun _=>6
set_option genCtorIdx true in inductive Cls where|heap|search|proof deriving DecidableEq
set_option genCtorIdx true in inductive Fn where|place_of|order_key|clause_of|is_always_true|order_of|tidy|is_tidy|resolve_on|draw|lclause|world|lcore|taken|rested|column|follows|right|h_init|h_many|h_held|h_before|h_grow|h_put|h_rise|h_push|t_init|t_grow|t_value|t_depth|t_store|t_watch|t_height|t_byh|t_place|t_enq|t_newlev|t_cancel|t_prop|t_visit|t_moved|s_init|s_newvar|s_add|s_log|s_unit|s_prop|p_init|p_size|p_clause|p_add|p_chain deriving DecidableEq
noncomputable def Fn.nm:Fn->Str|.place_of=>"place_of"|.order_key=>"order_key"|.clause_of=>"clause_of"|.is_always_true=>"is_always_true"|.order_of=>"order_of"|.tidy=>"tidy"|.is_tidy=>"is_tidy"|.resolve_on=>"resolve_on"|.draw=>"_law_draw"|.lclause=>"_law_clause"|.world=>"_law_world"|.lcore=>"_law_core"|.taken=>"_law_taken"|.rested=>"_law_rested"|.column=>"_law_column"|.follows=>"_law_follows"|.right=>"_law_is_step_right"|.h_init=>"__init__"|.h_many=>"many"|.h_held=>"is_held"|.h_before=>"is_before"|.h_grow=>"grow"|.h_put=>"put"|.h_rise=>"rise"|.h_push=>"push"|.t_init=>"__init__"|.t_grow=>"grow"|.t_value=>"value"|.t_depth=>"depth"|.t_store=>"store"|.t_watch=>"watch"|.t_height=>"height"|.t_byh=>"by_heights"|.t_place=>"place"|.t_enq=>"enqueue"|.t_newlev=>"new_level"|.t_cancel=>"cancel_until"|.t_prop=>"propagate_clauses"|.t_visit=>"visit"|.t_moved=>"moved"|.s_init=>"__init__"|.s_newvar=>"new_var"|.s_add=>"add_clause"|.s_log=>"log_chain"|.s_unit=>"unit_step"|.s_prop=>"propagate"|.p_init=>"__init__"|.p_size=>"size"|.p_clause=>"clause"|.p_add=>"add"|.p_chain=>"chain"
noncomputable def methOf:Cls->Fn->Bool|.heap,f=>f==.h_many||f==.h_held||f==.h_before||f==.h_grow||f==.h_put||f==.h_rise||f==.h_push|.search,f=>f==.t_grow||f==.t_value||f==.t_depth||f==.t_store||f==.t_watch||f==.t_height||f==.t_byh||f==.t_place||f==.t_enq||f==.t_newlev||f==.t_cancel||f==.t_prop||f==.t_visit||f==.t_moved||f==.s_newvar||f==.s_add||f==.s_log||f==.s_unit||f==.s_prop|.proof,f=>f==.p_size||f==.p_clause||f==.p_add||f==.p_chain
noncomputable def initOf:Cls->Fn|.heap=>.h_init|.search=>.s_init|.proof=>.p_init
set_option genCtorIdx true in inductive At where|limit|step|activity|heap|place|hook|assigns|levels|reasons|spots|phases|watches|trail|starts|head|told|clauses|steps|droppable|activities|learnt_count|proof|seen|unit_steps|rooted|is_ok|empty_step|failed|failed_at|conflict_limit|conflicts|decisions|named|empty deriving DecidableEq
noncomputable def At.nm:At->Str|.limit=>"limit"|.step=>"step"|.activity=>"activity"|.heap=>"heap"|.place=>"place"|.hook=>"hook"|.assigns=>"assigns"|.levels=>"levels"|.reasons=>"reasons"|.spots=>"spots"|.phases=>"phases"|.watches=>"watches"|.trail=>"trail"|.starts=>"starts"|.head=>"head"|.told=>"told"|.clauses=>"clauses"|.steps=>"steps"|.droppable=>"droppable"|.activities=>"activities"|.learnt_count=>"learnt_count"|.proof=>"proof"|.seen=>"seen"|.unit_steps=>"unit_steps"|.rooted=>"rooted"|.is_ok=>"is_ok"|.empty_step=>"empty_step"|.failed=>"failed"|.failed_at=>"failed_at"|.conflict_limit=>"conflict_limit"|.conflicts=>"conflicts"|.decisions=>"decisions"|.named=>"named"|.empty=>"empty"
inductive HObj where|list(vs:List Val)|inst(c:Cls)(at_:At->Option Val)|dictI(kvs:List (Int×Val))|dictS(kvs:List (Str×Val))|dictT(kvs:List (List Int×Val))
noncomputable def HObj.ctorIdx(x:HObj):Nat:=x.casesOn (fun _=>0) (fun _ _=>1) (fun _=>2) (fun _=>3) fun _=>4
set_option genInjectivity true in structure AS where
 H:Tag->Option (Nat×HObj)
 n:Nat
noncomputable def AS.put(S:AS)(t:Tag)(v:Nat)(o:HObj):AS:=⟨fun u=>if u=t then some (v,o)else S.H u,S.n⟩
noncomputable def AS.alloc(S:AS)(t:Tag)(o:HObj):AS:=⟨fun u=>if u=t then some (S.n,o)else S.H u,S.n+1⟩
noncomputable def AS.del(S:AS)(t:Tag):AS:=⟨fun u=>if u=t then none else S.H u,S.n⟩
def AS.Le(S T:AS):Prop:=S.n=T.n/\∀t p,S.H t=some p->T.H t=some p
structure Place2 where
 id:Addr
 cell:Addr
abbrev Interp:=Tag->Nat->Place2
mutual inductive VR(h:Heap)(I:Interp)(n:Nat):Value->Val->Prop|none:VR h I n .none .none|bool(b:Bool):VR h I n (.bool b) (.bool b)|int(i:Int)(t:Tok):VR h I n (.int i t) (.int i)|str(s:Str)(t:Tok):VR h I n (.str s t) (.str s)|tup{a:Addr}{items:List Value}{vs:List Val}:h.get? a=some {cls:=.type "tuple",data:=.seq items.toArray}->VRs h I n items vs->VR h I n (.ref a) (.tup vs)|loc{t:Tag}{v:Nat}:v<n->VR h I n (.ref (I t v).id) (.loc t v)|raw(a:Addr):VR h I n (.ref a) (.raw (.ref a))inductive VRs(h:Heap)(I:Interp)(n:Nat):List Value->List Val->Prop|nil:VRs h I n [] []|cons{v:Value}{x:Val}{vs:List Value}{xs:List Val}:VR h I n v x->VRs h I n vs xs->VRs h I n (v::vs) (x::xs)end
noncomputable def okAt(c:Cls)(a:At):Bool:=!(decide (c=.search)&&decide (a=.place))
theorem okAt_ne{a:At}(h:a≠.place):okAt c a=true:=by unfold okAt;rw[yR h,Bool.and_false];rfl
structure Up(h:Heap)(I:Interp)(n:Nat)(h':Heap)(I':Interp)(n':Nat):Prop where
 le:n<=n'
 same:∀t v,v<n->I' t v=I t v
 tup:∀a o,h.get? a=some o->o.cls=.type "tuple"->(∃xs n,o.data=.seq xs n)->h'.get? a=some o
theorem Up.refl:Up h I n h I n:=⟨yO _,fun _ _ _=>rfl,fun _ _ e _ _=>e⟩
theorem Up.trans{h'':Heap}{I'':Interp}{n'':Nat}(a:Up h I n h' I' n')(b:Up h' I' n' h'' I'' n''):Up h I n h'' I'' n'':=⟨zE a.le b.le,fun t v l=>(b.same t v (Nat.lt_of_lt_of_le l a.le)).trans (a.same t v l),fun x o e c d=>b.tup x o (a.tup x o e c d) c d⟩
theorem up_mut(u:Up h I n h' I' n'):(∀{v:Value}{x:Val},VR h I n v x->VR h' I' n' v x)/\∀{v:List Value}{x:List Val},VRs h I n v x->VRs h' I' n' v x:=by
 have l:∀{t:Tag}{v:Nat},v<n->VR h' I' n' (.ref (I t v).id) (.loc t v):=fun{t v}l=>u.same t v l▸.loc (Nat.lt_of_lt_of_le l u.le);exact⟨fun r=>VR.rec (motive_1:=fun v x _=>VR h' I' n' v x) (motive_2:=fun v x _=>VRs h' I' n' v x) .none .bool .int .str (fun e _ q=>.tup (u.tup _ _ e rfl ⟨_,_,rfl⟩) q) l .raw .nil (fun _ _ a b=>.cons a b) r,fun r=>VRs.rec (motive_1:=fun v x _=>VR h' I' n' v x) (motive_2:=fun v x _=>VRs h' I' n' v x) .none .bool .int .str (fun e _ q=>.tup (u.tup _ _ e rfl ⟨_,_,rfl⟩) q) l .raw .nil (fun _ _ a b=>.cons a b) r⟩
theorem VR.up(u:Up h I n h' I' n'){v:Value}{x:Val}(r:VR h I n v x):VR h' I' n' v x:=(up_mut u).1 r
theorem VRs.up(u:Up h I n h' I' n')(r:VRs h I n v x):VRs h' I' n' v x:=(up_mut u).2 r
theorem VRs.ind{M:List Value->List Val->Prop}(h0:M [] [])(h1:∀v x vs xs,VR h I n v x->VRs h I n vs xs->M vs xs->M (v::vs) (x::xs))(r:VRs h I n v x):M v x:=VRs.rec (motive_1:=fun _ _ _=>True) (motive_2:=fun v x _=>M v x) trivial (fun _=>trivial) (fun _ _=>trivial) (fun _ _=>trivial) (fun _ _ _=>trivial) (fun _=>trivial) (fun _=>trivial) h0 (fun a b _ m=>h1 _ _ _ _ a b m) r
theorem VRs.length(r:VRs h I n v x):v.length=x.length:=VRs.ind (M:=fun v x=>v.length=x.length) rfl (fun _ _ _ _ _ _ e=>zG (.+1) e) r
theorem VRs.append{v':List Value}{x':List Val}(r:VRs h I n v x)(r':VRs h I n v' x'):VRs h I n (v++v') (x++x'):=VRs.ind (M:=fun v x=>VRs h I n (v++v') (x++x')) r' (fun _ _ _ _ a _ m=>.cons a m) r
theorem VRs.get(r:VRs h I n v x):x[i]?=some y->∃u,v[i]?=some u/\VR h I n u y:=VRs.ind (M:=fun v x=>∀i,x[i]?=some y->∃u,v[i]?=some u/\VR h I n u y) (fun _ e=>ns e) (fun u x vs xs a _ m i=>by
 cases i with|zero=>exact fun e=>⟨u,rfl,zS e▸a⟩|succ i=>exact m i) r i
theorem VRs.set{u:Value}(r:VRs h I n v x)(b:VR h I n u y):VRs h I n (v.set i u) (x.set i y):=VRs.ind (M:=fun v x=>∀i,VRs h I n (v.set i u) (x.set i y)) (fun _=>.nil) (fun _ _ _ _ a r m i=>by
 cases i with|zero=>exact .cons b r|succ i=>exact .cons a (m i)) r i
variable{i:Int}
theorem VRs.take(i:Nat)(r:VRs h I n v x):VRs h I n (v.take i) (x.take i):=VRs.ind (M:=fun v x=>∀i,VRs h I n (v.take i) (x.take i)) (fun i=>by rw[List.take_nil,List.take_nil];exact .nil) (fun _ _ _ _ a r m i=>by
 cases i with|zero=>exact .nil|succ i=>exact .cons a (m i)) r i
theorem VRs.drop(i:Nat)(r:VRs h I n v x):VRs h I n (v.drop i) (x.drop i):=VRs.ind (M:=fun v x=>∀i,VRs h I n (v.drop i) (x.drop i)) (fun i=>by rw[List.drop_nil,List.drop_nil];exact .nil) (fun _ _ _ _ a r m i=>by
 cases i with|zero=>exact .cons a r|succ i=>exact m i) r i
theorem VRs.reverse(r:VRs h I n v x):VRs h I n v.reverse x.reverse:=VRs.ind (M:=fun v x=>VRs h I n v.reverse x.reverse) .nil (fun _ _ _ _ a _ m=>by rw[List.reverse_cons,List.reverse_cons];exact m.append (.cons a .nil)) r
variable{x:Val}{v:Value}
theorem VR.handed(r:VR h I n v x):handedIn v=true:=by cases r<;>rfl
noncomputable def allAt:List At:=[.limit,.step,.activity,.heap,.place,.hook,.assigns,.levels,.reasons,.spots,.phases,.watches,.trail,.starts,.head,.told,.clauses,.steps,.droppable,.activities,.learnt_count,.proof,.seen,.unit_steps,.rooted,.is_ok,.empty_step,.failed,.failed_at,.conflict_limit,.conflicts,.decisions,.named,.empty]
theorem allAt_mem(x:At):x∈allAt:=List.elem_iff.mp (by cases x<;>rfl)
noncomputable def At.ofNm(s:Str):Option At:=allAt.find? fun x=>x.nm==s
theorem At.ofNm_nm(x:At):At.ofNm x.nm=some x:=by cases x<;>kernel_rfl
theorem At.nm_inj{x y:At}(h:x.nm=y.nm):x=y:=by
 have :=At.ofNm_nm x;rw[h,At.ofNm_nm]at this;exact(zS this).symm
structure Base where
 prog:Program
 w:World
 hp:Heap
 os:OsState
 K:Frag
 inK:K.In hp
 mg:Str->Option Value
 mb:Str->Option Value
 pp:Program
 loose:List Str
 T:TopRead pp loose mg mb hp
 sysm:∃o,hp.get? sysModules=some o
 ca:Cls->Addr
 plain:∀c a,plainGet K (ca c) (At.nm a)=true
 hasD:∀c,hasDictIn K (ca c)=true
 noAttr:∀c a,okAt c a=true->findIn K (.ref (ca c)) (At.nm a)=some none
 setA:∀c,findIn K (.ref (ca c)) "__setattr__"=some (some (.builtin "object.__setattr__"))
 over:∀c,plainOver K (ca c)=true
 takes:∀c a,takerIn K (ca c) (At.nm a)=some none
 fa:Fn->Addr
 fd:Fn->FuncData
 scrA:Addr
 scr:List Int
structure AE where
 x:At
 tok:Tok
 hash:Int
 v:Value
noncomputable def AE.entry(a:AE):DictEntry:=⟨a.hash,.str a.x.nm a.tok,a.v⟩
def KR(h:Heap)(es:List DictEntry)(at_:At->Option Val)(I:Interp)(n:Nat):Prop:=∃l:List AE,es=l.map AE.entry/\(l.map (·.x)).Nodup/\(∀a∈l,∃y,at_ a.x=some y/\VR h I n a.v y)/\∀x,(at_ x).isSome=true->∃a∈l,a.x=x
theorem AE.isStr(a:AE)(s:Str):a.entry.key.isStr s=(a.x.nm==s):=rfl
theorem AE.find(l:List AE)(x:At):(l.map AE.entry).find? (·.key.isStr x.nm)=(l.find? fun a=>decide (a.x=x)).map AE.entry:=by
 induction l with|nil=>rfl|cons a r ih=>
  rw[List.map_cons,List.find?_cons,List.find?_cons,AE.isStr];by_cases h:a.x=x;.simp[h]
  .have :(a.x.nm==x.nm)=false:=zQ.mpr fun q=>h (At.nm_inj q);simp only[this,h,decide_false];exact ih
theorem AE.noRef(l:List AE):(l.map AE.entry).any (·.refKey)=false:=by
 rw[List.any_eq_false];intro e he;refine xea (yE.mp he) fun a _ e_2=>?_;clear he;subst e_2;simp[AE.entry,DictEntry.refKey]
theorem KR.get(r:KR h es at_ I n){x:At}(e:at_ x=some y):∃v,getL x.nm es=some (some v)/\VR h I n v y:=by
 refine xea3 r fun l e_1 hn hv hs=>?_;clear r;subst e_1;refine xea (hs x (by rw[e];rfl)) fun a ha e_2=>?_;subst e_2;unfold getL;rw[AE.find];cases q:l.find? fun b=>decide (b.x=a.x)with|none=>exact absurd ha (by have :=List.find?_eq_none.mp q a;simpa using this)|some b=>
  have hb:=List.mem_of_find?_eq_some q;have hx:b.x=a.x:=by simpa using List.find?_some q
  refine xea (hv b hb) fun y' h1 h2=>?_;rw[hx,e]at h1;cases h1;exact⟨b.v,rfl,h2⟩
theorem KR.free(r:KR h es at_ I n){s:Str}(e:∀x,at_ x≠none->x.nm≠s):getL s es=some none:=by
 refine xea3 r fun l e_1 hn hv hs=>?_;clear r;subst e_1;unfold getL;have :(l.map AE.entry).find? (·.key.isStr s)=none:=by
  rw[List.find?_eq_none];intro d hd;refine xea (yE.mp hd) fun a ha e_2=>?_;clear hd;subst e_2;rw[AE.isStr];refine xea (hv a ha) fun y h1 _=>?_;simpa using e a.x (by rw[h1];simp)
 rw[this,AE.noRef];rfl
theorem nodup_len[DecidableEq α]:∀(l m:List α),l.Nodup->(∀x∈l,x∈m)->l.length<=m.length:=by
 intro v;induction v with
 |nil=>
  intro _ _ _;exact yA _|cons a r ih=>
  intro m hn h;have ha:=h a (zF ..);obtain⟨h1,h2⟩:=List.nodup_cons.mp hn;have :=ih (m.erase a) h2 fun x hx=>(List.mem_erase_of_ne (fun q:x=a=>h1 (q▸hx))).mpr (h x (zI _ hx));rw[List.length_erase_of_mem ha]at this;have :=List.length_pos_of_mem ha;rw[List.length_cons];omega
theorem KR.len(r:KR h es at_ I n):es.length<=34:=by
 refine xea3 r fun l e_1 hn hv hs=>?_;clear r;subst e_1;have :=nodup_len _ allAt hn fun x _=>allAt_mem x;rw[zA]at this⊢;exact this
noncomputable def putAE(x:At)(hsh:Int)(tok:Tok)(v:Value):List AE->List AE|[]=>[⟨x,tok,hsh,v⟩]|c::r=>if c.x=x then⟨x,c.tok,c.hash,v⟩::r else c::putAE x hsh tok v r
theorem putL_AE(x:At)(hsh:Int)(tok:Tok)(v:Value):∀l:List AE,putL x.nm hsh (.str x.nm tok) v (l.map AE.entry)=(putAE x hsh tok v l).map AE.entry:=by
 intro v;induction v with
 |nil=>
  exact rfl|cons c r ih=>
  have ih:=ih;by_cases h:c.x=x;.simp only[List.map_cons,putL,putAE];rw[zU (by rw[AE.isStr,h];simp),zU h];simp[AE.entry,h]
  .simp only[List.map_cons,putL,putAE];rw[zN (by rw[AE.isStr];simpa using fun q=>h (At.nm_inj q)),zN h,ih];rfl
theorem putAE_names(x:At)(hsh:Int)(tok:Tok)(v:Value):∀l:List AE,(putAE x hsh tok v l).map (·.x)=if x∈l.map (·.x)then l.map (·.x)else l.map (·.x)++[x]:=by
 intro v;induction v with
 |nil=>
  simp[putAE]|cons c r ih=>
  have ih:=ih;by_cases h:c.x=x;.simp[putAE,h]
  .simp only[putAE,zN h,List.map_cons,ih,zL,Ne.symm h,false_or];split<;>simp
theorem putAE_mem(x:At)(hsh:Int)(tok:Tok)(v:Value):∀l:List AE,(l.map (·.x)).Nodup->∀a∈putAE x hsh tok v l,(a.x=x/\a.v=v)\/(a∈l/\a.x≠x):=by
 intro v;induction v with|nil=>
  intro _ a ha;simp only[putAE,zD]at ha;subst ha;exact .inl ⟨rfl,rfl⟩|cons c r ih=>
    intro hn a ha;rw[List.map_cons,List.nodup_cons]at hn;by_cases h:c.x=x
    . simp only[putAE,zU h,zL]at ha;rcases ha with rfl|ha;.exact .inl ⟨rfl,rfl⟩
      .exact .inr ⟨zI _ ha,fun q=>hn.1 (yE.mpr ⟨a,ha,by rw[q,h]⟩)⟩
    . simp only[putAE,zN h,zL]at ha;rcases ha with rfl|ha;.exact .inr ⟨zF ..,h⟩
      . rcases ih hn.2 a ha with q|⟨q,z⟩;.exact .inl q
        .exact .inr ⟨zI _ q,z⟩
theorem KR.put(r:KR h es at_ I n)(x:At)(hv:VR h I n v y)(hsh:Int)(tok:Tok):KR h (putL x.nm hsh (.str x.nm tok) v es) (fun b=>if b=x then some y else at_ b) I n:=by
  refine xea3 r fun l e_1 hn hl hs=>?_;clear r;subst e_1;have e:=putAE_names x hsh tok v l;refine⟨putAE x hsh tok v l,putL_AE ..,?_,fun a ha=>?_,fun z hz=>?_⟩
  . rw[e];split;.exact hn
    .rename_i q;exact List.nodup_append.mpr ⟨hn,by simp,fun a ha b hb=>by rw[zD]at hb;clear e;subst hb;exact fun w=>q (w▸ha)⟩
  . rcases putAE_mem x hsh tok v l hn a ha with⟨h1,h2⟩|⟨h1,h2⟩;.exact⟨y,by simp[h1],h2▸hv⟩
    .refine xea (hl a h1) fun y' p q=>?_;exact⟨y',by simp[h2,p],q⟩
  . have :z∈(putAE x hsh tok v l).map (·.x):=by
      rw[e];by_cases w:z=x;.clear e hz;subst w;split<;>simp_all
      . simp only[w,if_false]at hz;refine xea (hs z hz) fun a ha e_2=>?_;clear w;subst e_2;split;.exact List.mem_map_of_mem ha
        .exact yP _ (List.mem_map_of_mem ha)
    refine xea (yE.mp this) fun a ha e_2=>?_;clear hz this;subst e_2;exact⟨a,ha,rfl⟩
noncomputable def PR(h:Heap)(I:Interp)(n:Nat):List (κ×Value)->List (κ×Val)->Prop|[],[]=>True|(k,v)::r,(k',x)::r'=>k=k'/\VR h I n v x/\PR h I n r r'|_,_=>False
def OR(B:Base)(h:Heap)(I:Interp)(n:Nat)(p:Place2):HObj->Prop|.list xs=>p.id=p.cell/\∃items e,h.get? p.cell=some {cls:=.type "list",data:=.seq items e}/\VRs h I n items.toList xs|.inst c at_=>h.get? p.id=some (instObj (B.ca c) p.cell)/\∃es e,h.get? p.cell=some (dictOf es e)/\KR h es at_ I n|.dictI kvs=>p.id=p.cell/\∃ps,h.DictOf (intKind B.prog B.w) p.cell ps/\PR h I n ps kvs|.dictS kvs=>p.id=p.cell/\∃ps,h.DictOf (strKind B.prog B.w) p.cell ps/\PR h I n ps kvs|.dictT kvs=>p.id=p.cell/\∃xs:List (List Int×Addr×Value),h.DictOfH (tupleKind (intKind B.prog B.w)) p.cell xs/\(∀x∈xs,∃items:List Value,h.get? x.2.1=some {cls:=.type "tuple",data:=.seq items.toArray})/\PR h I n (xs.map fun x=>(x.1,x.2.2)) kvs
theorem KR.up(u:Up h I n h' I' n')(x:KR h es at_ I n):KR h' es at_ I' n':=by
 refine xea3 x fun l a b c d=>?_;exact⟨l,a,b,fun e he=>(c e he).imp fun y p=>⟨p.1,p.2.up u⟩,d⟩
variable{es:List Expr}
theorem PR.ind{M:List (κ×Value)->List (κ×Val)->Prop}(h0:M [] [])(h1:∀k v x a b,VR h I n v x->M a b->M ((k,v)::a) ((k,x)::b)){a:List (κ×Value)}:∀{b:List (κ×Val)},PR h I n a b->M a b:=by
 induction a with
 |nil=>intro b r;cases b with|nil=>exact h0|cons _ _=>exact r.elim
 |cons p a ih=>intro b r;cases b with|nil=>exact r.elim|cons q b=>exact Eq.mp (zG (fun k=>M (p::a) ((k,q.2)::b)) (r.1:p.1=q.1)) (h1 p.1 p.2 q.2 a b r.2.1 (ih r.2.2))
theorem PR.cons{k:κ}{a:List (κ×Value)}{b:List (κ×Val)}(hv:VR h I n v x)(r:PR h I n a b):PR h I n ((k,v)::a) ((k,x)::b):=⟨rfl,hv,r⟩
variable{v:Nat}
theorem PR.up(u:Up h I n h' I' n'){a:List (κ×Value)}{b:List (κ×Val)}(r:PR h I n a b):PR h' I' n' a b:=PR.ind (M:=PR h' I' n') trivial (fun _ _ _ _ _ hv r=>⟨rfl,hv.up u,r⟩) r
theorem dsh{X Y:Obj->Array DictEntry->Nat->Prop}(d:∃o es ep,h.get? a=some o/\(o.cls=.type "dict"/\X o es ep)/\o.data=.dict es ep/\Y o es ep):∃ob,h.get? a=some ob/\((ob.cls=.type "list"/\∃xs e,ob.data=.seq xs e)\/(ob.cls=.type "dict"/\∃es e,ob.data=.dict es e)):=d.elim fun o d=>d.elim fun es d=>d.elim fun ep d=>⟨o,d.1,.inr ⟨d.2.1.1,es,ep,d.2.2.1⟩⟩
theorem dk{P:Obj->Array DictEntry->Nat->Prop}(k2:∀o,h.get? a=some o->h'.get? a=some o)(d:∃o es ep,h.get? a=some o/\P o es ep):∃o es ep,h'.get? a=some o/\P o es ep:=d.imp fun _ d=>d.imp fun _ d=>d.imp fun _ d=>⟨k2 _ d.1,d.2⟩
theorem OR.shape(x:OR B h I n p o):∃ob,h.get? p.cell=some ob/\((ob.cls=.type "list"/\∃xs e,ob.data=.seq xs e)\/(ob.cls=.type "dict"/\∃es e,ob.data=.dict es e)):=by
 cases o with|list xs=>exact xae2a x fun _ items e q _=>⟨_,q,.inl ⟨rfl,_,_,rfl⟩⟩|inst c a=>exact xae2a x fun _ es e q _=>⟨_,q,.inr ⟨rfl,_,_,rfl⟩⟩|dictI k=>exact xaea x fun _ ps q _=>dsh q|dictS k=>exact xaea x fun _ ps q _=>dsh q|dictT k=>exact xaea x fun _ ps q _=>dsh q
theorem OR.ident(x:OR B h I n p o):p.id=p.cell\/∃C,h.get? p.id=some (instObj C p.cell):=by
 cases o with|inst c a=>exact .inr ⟨_,x.1⟩|list _=>exact .inl x.1|dictI _=>exact .inl x.1|dictS _=>exact .inl x.1|dictT _=>exact .inl x.1
theorem OR.keep(u:Up h I n h' I' n')(k1:∀o,h.get? p.id=some o->h'.get? p.id=some o)(k2:∀o,h.get? p.cell=some o->h'.get? p.cell=some o)(x:OR B h I n p o):OR B h' I' n' p o:=by
 cases o with|list xs=>refine xae2a x fun a items e q r=>?_;exact⟨a,items,e,k2 _ q,r.up u⟩|inst c a=>refine xae2a x fun b es e q r=>?_;exact⟨k1 _ b,es,e,k2 _ q,r.up u⟩|dictI k=>exact xaea x fun a ps d r=>⟨a,ps,dk k2 d,r.up u⟩|dictS k=>exact xaea x fun a ps d r=>⟨a,ps,dk k2 d,r.up u⟩|dictT k=>
  refine xaea2 x fun a xs d r6 r'=>?_;refine xe3a5 d fun o es ep q r1 r2 r3 r4 r5=>?_;exact⟨a,xs,⟨o,es,ep,k2 _ q,r1,r2,r3,fun y hy=>(r4 y hy).imp fun ob p=>p.imp fun items p=>p.imp fun m p=>⟨u.tup _ _ p.1 p.2.1 ⟨_,_,p.2.2.1⟩,p.2⟩,r5⟩,fun y hy=>(r6 y hy).imp fun items g=>u.tup _ _ g rfl ⟨_,_,rfl⟩,r'.up u⟩
variable{o:Obj}
structure SR(B:Base)(s:Shared)(S:AS)(I:Interp):Prop where
 keep:∀b o,B.hp.get? b=some o->s.heap.get? b=some o
 lt:∀t v o,S.H t=some (v,o)->v<S.n
 obj:∀t v o,S.H t=some (v,o)->OR B s.heap I S.n (I t v) o
 inj:∀t v o t' v' o',S.H t=some (v,o)->S.H t'=some (v',o')->(I t v).cell=(I t' v').cell->t=t'
 new:∀t v o,S.H t=some (v,o)->B.hp.get? (I t v).cell=none
 gens:s.gens=#[]
 os:s.os=B.os
theorem SR.toks(x:SR B s S I)(k:Nat):SR B {s with toks:=k} S I:=⟨x.keep,x.lt,x.obj,x.inj,x.new,x.gens,x.os⟩
theorem SR.in_(x:SR B s S I):B.K.In s.heap:=B.inK.keeps x.keep
theorem SR.le{T:AS}(x:SR B s T I)(l:S.Le T):SR B s S I:=⟨x.keep,fun t v o e=>l.1▸x.lt t v o (l.2 _ _ e),fun t v o e=>l.1▸x.obj t v o (l.2 _ _ e),fun t v o t' v' o' e e' q=>x.inj t v o t' v' o' (l.2 _ _ e) (l.2 _ _ e') q,fun t v o e=>x.new t v o (l.2 _ _ e),x.gens,x.os⟩
structure Ext(W:Addr->Prop)(s:Shared)(S:AS)(I:Interp)(s':Shared)(S':AS)(I':Interp):Prop where
 up:Up s.heap I S.n s'.heap I' S'.n
 keep:∀a o,s.heap.get? a=some o->¬W a->(∀t v o',S.H t=some (v,o')->(I t v).cell≠a)->s'.heap.get? a=some o
 old:∀a,s'.heap.get? a=none->s.heap.get? a=none
 fresh:∀t v o,S'.H t=some (v,o)->((∃o0,S.H t=some (v,o0))/\I' t v=I t v)\/s.heap.get? (I' t v).cell=none
theorem Ext.refl:Ext W s S I s S I:=⟨.refl,fun _ _ e _ _=>e,fun _ e=>e,fun _ _ _ e=>.inl ⟨⟨_,e⟩,rfl⟩⟩
theorem Ext.toks(x:Ext W s S I s' S' I')(k:Nat):Ext W s S I {s' with toks:=k} S' I':=⟨x.up,x.keep,x.old,x.fresh⟩
theorem Ext.ofToks(x:Ext W {s with toks:=k} S I s' S' I'):Ext W s S I s' S' I':=⟨x.up,x.keep,x.old,x.fresh⟩
theorem Ext.trans{s'':Shared}{S'':AS}{I'':Interp}(a:Ext W s S I s' S' I')(b:Ext W s' S' I' s'' S'' I''):Ext W s S I s'' S'' I'':=by
  refine⟨a.up.trans b.up,fun x o e w l=>b.keep x o (a.keep x o e w l) w fun t v o' e' q=>?_,fun x e=>a.old x (b.old x e),fun t v o e=>?_⟩
  . rcases a.fresh t v o' e' with⟨⟨o0,h0⟩,hI⟩|h;.exact l t v o0 h0 (by rw[<-hI];exact q)
    .rw[q,e]at h;cases h
  . rcases b.fresh t v o e with⟨⟨o0,h0⟩,hI⟩|h
    . rcases a.fresh t v o0 h0 with⟨⟨o1,h1⟩,hI1⟩|h;.exact .inl ⟨⟨o1,h1⟩,hI.trans hI1⟩
      .exact .inr (by rw[hI];exact h)
    .exact .inr (a.old _ h)
theorem Ext.weaken{W':Addr->Prop}(x:Ext W s S I s' S' I')(h:∀a,W a->W' a\/s.heap.get? a=none):Ext W' s S I s' S' I':=⟨x.up,fun a o e w l=>x.keep a o e (fun q=>(h a q).elim w fun z=>by rw[e]at z;cases z) l,x.old,x.fresh⟩
abbrev NC:=List (Str×Nat)
noncomputable abbrev CLS:Str:="__class__"
structure FR(B:Base)(env:Env)(h:Heap)(I:Interp)(S:AS)(m cm:Str->Option Value):Prop where
 ns:h.Ns env.locals m
 above:B.hp.objs.size<=env.locals
 cell:∀n c,n≠CLS->env.cells.lookup n=some c->h.IsCell c (cm n)
 apart:env.cells.Pairwise fun x y=>x.2≠y.2
 cells:∀n c,n≠CLS->(n,c)∈env.cells->env.locals≠c/\B.hp.objs.size<=c
 offL:∀t v o,S.H t=some (v,o)->(I t v).cell≠env.locals
def MR(nc:NC)(env:Env)(h:Heap)(I:Interp)(n:Nat)(μ:List (Option Val))(m cm:Str->Option Value):Prop:=∀x i,nc.lookup x=some i->∀y,μ[i]?=some (some y)->∃v,((env.kindOf x=some .local/\m x=some v)\/((env.kindOf x=some .cell\/env.kindOf x=some .free)/\cm x=some v/\(env.cells.lookup x).isSome=true))/\VR h I n v y
inductive LR(B:Base)(nc:NC)(env:Env)(h:Heap)(I:Interp)(S:AS)(μ:List (Option Val)):Prop|mk(m cm:Str->Option Value)(f:FR B env h I S m cm)(r:MR nc env h I S.n μ m cm)
theorem SR.Fr(x:SR B s S I)(y:FR B env s.heap I S m cm):Fr B.hp env.locals s.heap m:=⟨y.ns,x.keep,y.above⟩
def Soft(o:Obj):Prop:=(o.cls=.type "tuple"->∀xs n,o.data≠.seq xs n)/\o.data≠.plain
theorem Soft.dict{es:Array DictEntry}{e:Nat}(h:o.data=.dict es e):Soft o:=by unfold Soft;rw[h];exact⟨(by intro _ _ _ q;cases q),(by intro q;cases q)⟩
theorem Soft.cell(h:o.data=.cell u):Soft o:=by unfold Soft;rw[h];exact⟨(by intro _ _ _ q;cases q),(by intro q;cases q)⟩
theorem Soft.fields{u:Array Value}(h:o.data=.fields u):Soft o:=by unfold Soft;rw[h];exact⟨(by intro _ _ _ q;cases q),(by intro q;cases q)⟩
theorem Soft.list{u:Array Value}(c:o.cls=.type "list")(h:o.data=.seq u n):Soft o:=by unfold Soft;rw[h,c];exact⟨(by intro q;exact absurd q (by decide)),(by intro q;cases q)⟩
variable{o:HObj}
def Wf(env:Env)(a:Addr):Prop:=a=env.locals\/∃n,n≠CLS/\env.cells.lookup n=some a
def We(env:Env)(a:Addr):Prop:=a=env.locals
theorem SR.shape(x:SR B s S I)(e:S.H t=some (v,o)):∃ob,s.heap.get? (I t v).cell=some ob/\((ob.cls=.type "list"/\∃xs e,ob.data=.seq xs e)\/(ob.cls=.type "dict"/\∃es e,ob.data=.dict es e)):=(x.obj t v o e).shape
theorem SR.offCell(x:SR B s S I)(e:S.H t=some (v,o))(c:s.heap.IsCell a u):(I t v).cell≠a:=by
 intro q;refine xea (x.shape e) fun ob h1 h2=>?_;refine xea c fun oc hc hd=>?_;rw[q,hc]at h1;cases h1;rcases h2 with⟨_,xs,n,h2⟩|⟨_,xs,n,h2⟩<;>rw[hd]at h2<;>cases h2
variable{u:Value}
theorem SR.kept(x:SR B s S I)(k:∀a o,s.heap.get? a=some o->¬W a->s'.heap.get? a=some o)(w1:∀a,W a->B.hp.get? a=none)(w2:∀a o,W a->s.heap.get? a=some o->Soft o)(w3:∀t v o,S.H t=some (v,o)->¬W (I t v).cell)(old:∀a,s'.heap.get? a=none->s.heap.get? a=none)(g:s'.gens=s.gens)(os:s'.os=s.os):SR B s' S I/\Ext W s S I s' S I:=by
  have tup:∀a o,s.heap.get? a=some o->o.cls=.type "tuple"->(∃xs n,o.data=.seq xs n)->s'.heap.get? a=some o:=fun a o e c⟨xs,n,d⟩=>k a o e fun hw=>(w2 a o hw e).1 c _ _ d;have u:Up s.heap I S.n s'.heap I S.n:=⟨yO _,fun _ _ _=>rfl,tup⟩;refine⟨⟨fun b o e=>k b o (x.keep b o e) fun hw=>?_,x.lt,fun t v o e=>(x.obj t v o e).keep u (fun ob h=>k _ _ h fun hw=>?_) fun ob h=>k _ _ h (w3 t v o e),x.inj,x.new,g.trans x.gens,os.trans x.os⟩,⟨u,fun a o e hw _=>k a o e hw,old,fun t v o e=>.inl ⟨⟨o,e⟩,rfl⟩⟩⟩;.rw[w1 b hw]at e;cases e
  . rcases(x.obj t v o e).ident with q|⟨C,q⟩;.rw[q]at hw;exact w3 t v o e hw
    .rw[q]at h;cases h;exact(w2 _ _ hw q).2 rfl
theorem FR.ext(x:SR B s S I)(y:FR B env s.heap I S m cm)(z:Ext W s S I s' S' I')(w:∀a,Wf env a->¬W a):FR B env s'.heap I' S' m cm:=by
  refine xe3a y.ns fun o es ep ho r=>?_;refine⟨⟨o,es,ep,z.keep _ _ ho (w _ (.inl rfl)) (fun t v o e=>y.offL t v o e),r⟩,y.above,fun n c hn e=>?_,y.apart,y.cells,fun t v o' e q=>?_⟩
  .refine xea (y.cell n c hn e) fun oc hc hd=>?_;exact⟨oc,z.keep _ _ hc (w _ (.inr ⟨n,hn,e⟩)) (fun t v o' e'=>x.offCell e' ⟨oc,hc,hd⟩),hd⟩
  . rcases z.fresh t v o' e with⟨⟨o0,h0⟩,hI⟩|h;.exact y.offL t v o0 h0 (hI▸q)
    .rw[q,ho]at h;cases h
theorem MR.up(u:Up h I n h' I' n')(x:MR nc env h I n μ m cm):MR nc env h' I' n' μ m cm:=fun a i e y q=>(x a i e y q).imp fun v p=>⟨p.1,p.2.up u⟩
theorem LR.ext(x:SR B s S I)(y:LR B nc env s.heap I S μ)(z:Ext W s S I s' S' I')(w:∀a,Wf env a->¬W a):LR B nc env s'.heap I' S' μ:=by obtain⟨m,cm,f,r⟩:=y;exact⟨m,cm,f.ext x z w,r.up z.up⟩
noncomputable def Interp.set(I:Interp)(t:Tag)(v:Nat)(p:Place2):Interp:=fun t' v'=>if t'=t/\v'=v then p else I t' v'
theorem Interp.set_self(I:Interp)(t:Tag)(v:Nat)(p:Place2):I.set t v p t v=p:=by simp[Interp.set]
theorem Interp.set_ver(I:Interp)(t:Tag)(v:Nat)(p:Place2){t':Tag}{v':Nat}(h:v'<v):I.set t v p t' v'=I t' v':=by
 have :v'≠v:=Nat.ne_of_lt h;simp[Interp.set,this]
structure WOk(B:Base)(W:Addr->Prop)(s:Shared)(S:AS)(I:Interp):Prop where
 base:∀a,W a->B.hp.get? a=none
 data:∀a o,W a->s.heap.get? a=some o->Soft o
 live:∀t v o,S.H t=some (v,o)->¬W (I t v).cell
theorem put_ind(h1:M t v o')(h2:∀t' v' o1,t'≠t->S.H t'=some (v',o1)->M t' v' o1)(t':Tag)(v':Nat)(o1:HObj)(e:(S.put t v o').H t'=some (v',o1)):M t' v' o1:=by
 by_cases q:t'=t
 .have e:=zS ((zU q).symm.trans e);cases e;exact q▸h1
 .exact h2 _ _ _ q ((zN q).symm.trans e)
theorem alloc_ind(h1:M t S.n o')(h2:∀t' v' o1,t'≠t->S.H t'=some (v',o1)->M t' v' o1)(t':Tag)(v':Nat)(o1:HObj)(e:(S.alloc t o').H t'=some (v',o1)):M t' v' o1:=by
 by_cases q:t'=t
 .have e:=zS ((zU q).symm.trans e);cases e;exact q▸h1
 .exact h2 _ _ _ q ((zN q).symm.trans e)
variable{M:Mu->AS->VQ->Prop}
theorem SR.put(x:SR B s S I)(w:WOk B W s S I)(e:S.H t=some (v,o))(k:∀a o,s.heap.get? a=some o->a≠(I t v).cell->¬W a->s'.heap.get? a=some o)(old:∀a,s'.heap.get? a=none->s.heap.get? a=none)(hor:Up s.heap I S.n s'.heap I S.n->OR B s'.heap I S.n (I t v) o')(g:s'.gens=s.gens)(os:s'.os=s.os):SR B s' (S.put t v o') I/\Ext W s S I s' (S.put t v o') I:=by
  refine xea (x.shape e) fun oc hc hs=>?_;have hc2:oc.cls≠.type "tuple"/\∀C c,oc≠instObj C c:=hs.elim (fun h=>⟨fun q=>absurd (h.1.symm.trans q) (by decide),fun C c q=>absurd (h.1.symm.trans (zG Obj.cls q)) nofun⟩) fun h=>⟨fun q=>absurd (h.1.symm.trans q) (by decide),fun C c q=>absurd (h.1.symm.trans (zG Obj.cls q)) nofun⟩;have tup:∀a o,s.heap.get? a=some o->o.cls=.type "tuple"->(∃xs n,o.data=.seq xs n)->s'.heap.get? a=some o:=fun a o e c d=>k a o e (fun q=>hc2.1 (zS (hc.symm.trans (q▸e))▸c)) fun hw=>d.elim fun xs d=>d.elim fun n d=>(w.data a o hw e).1 c _ _ d;have u:Up s.heap I S.n s'.heap I S.n:=⟨yO _,fun _ _ _=>rfl,tup⟩;have was:∀t' v' o1,(S.put t v o').H t'=some (v',o1)->∃o0,S.H t'=some (v',o0):=put_ind (M:=fun t' v' _=>∃o0,S.H t'=some (v',o0)) ⟨_,e⟩ fun _ _ _ _ e=>⟨_,e⟩;refine⟨⟨fun b ob e1=>k b ob (x.keep b ob e1) (fun q=>?_) fun hw=>?_,fun t' v' o1 e1=>xe (was _ _ _ e1) fun _ e0=>x.lt _ _ _ e0,put_ind (M:=fun t' v' o1=>OR B s'.heap I S.n (I t' v') o1) (hor u) fun t' v' o1 hne e'=>?_,fun t1 v1 o1 t2 v2 o2 e1 e2 q=>xe (was _ _ _ e1) fun _ a=>xe (was _ _ _ e2) fun _ b=>x.inj _ _ _ _ _ _ a b q,fun t' v' o1 e1=>xe (was _ _ _ e1) fun _ a=>x.new _ _ _ a,g.trans x.gens,os.trans x.os⟩,⟨u,fun a ob e1 hw l=>k a ob e1 (fun q=>l t v o e q.symm) hw,old,fun t' v' o1 e1=>.inl ⟨was _ _ _ e1,rfl⟩⟩⟩;.rw[q,x.new _ _ _ e]at e1;exact ns e1
  .rw[w.base b hw]at e1;exact ns e1
  . have id:=(x.obj _ _ _ e').ident;refine(x.obj _ _ _ e').keep u (fun ob h=>k _ _ h (fun q=>?_) fun hw=>?_) fun ob h=>k _ _ h (fun q=>hne (x.inj _ _ _ _ _ _ e' e q)) (w.live _ _ _ e');.exact id.elim (fun z=>hne (x.inj _ _ _ _ _ _ e' e (z.symm.trans q))) fun z=>z.elim fun C z=>hc2.2 _ _ (zS (hc.symm.trans (q▸z)))
    .exact id.elim (fun q=>w.live _ _ _ e' (q▸hw)) fun q=>q.elim fun C q=>(w.data _ _ hw q).2 rfl
variable{v:Value}
theorem FR.wokE(y:FR B env s.heap I S m cm):WOk B (We env) s S I:=by
 refine xe3a2 y.ns fun o es ep ho hd _=>?_;refine⟨fun a hw=>?_,fun a ob hw e=>?_,fun t v o e hw=>y.offL t v o e hw⟩;.cases q:B.hp.get? a with|none=>rfl|some ob=>exact absurd (Heap.lt_size q) (Nat.not_lt.mpr (hw▸y.above))
 .rw[show a=env.locals from hw,ho]at e;cases e;exact .dict hd
theorem FR.wokF(x:SR B s S I)(y:FR B env s.heap I S m cm):WOk B (Wf env) s S I:=by
  have z:=y.wokE;refine⟨fun a hw=>?_,fun a ob hw e=>?_,fun t v o e hw=>?_⟩
  . rcases hw with hw|⟨n,hn,hw⟩;.exact z.base a hw
    .cases q:B.hp.get? a with|none=>rfl|some ob=>exact absurd (Heap.lt_size q) (Nat.not_lt.mpr (y.cells n a hn (mem_of_lookup hw)).2)
  . rcases hw with hw|⟨n,hn,hw⟩;.exact z.data a ob hw e
    .refine xea (y.cell n a hn hw) fun oc hc hd=>?_;rw[hc]at e;cases e;exact .cell hd
  . rcases hw with hw|⟨n,hn,hw⟩;.exact z.live t v o e hw
    .exact x.offCell e (y.cell n _ hn hw) rfl
theorem FR.extE(x:SR B s S I)(y:FR B env s.heap I S m cm)(z:Ext (We env) s S I s' S' I')(ns:s'.heap.Ns env.locals m):FR B env s'.heap I' S' m cm:=by
  refine xe3a y.ns fun o es ep ho r=>?_;refine⟨ns,y.above,fun n c hn e=>?_,y.apart,y.cells,fun t v o' e q=>?_⟩
  .refine xea (y.cell n c hn e) fun oc hc hd=>?_;exact⟨oc,z.keep _ _ hc (fun q=>(y.cells n c hn (mem_of_lookup e)).1 (Eq.symm q)) (fun t v o' e'=>x.offCell e' ⟨oc,hc,hd⟩),hd⟩
  . rcases z.fresh t v o' e with⟨⟨o0,h0⟩,hI⟩|h;.exact y.offL t v o0 h0 (hI▸q)
    .rw[q,ho]at h;cases h
noncomputable def rest(h h₀:Heap)(L:Addr)(ex:List Addr):List (Addr×Obj):=(List.range h.objs.size).filterMap fun a=>if a=L\/a∈ex\/(h₀.get? a).isSome=true then none else(h.get? a).map fun o=>(a,o)
theorem mem_rest{o:Obj}:(a,o)∈rest h h₀ L ex↔h.get? a=some o/\a≠L/\a∉ex/\h₀.get? a=none:=by
  unfold rest;rw[List.mem_filterMap];constructor
  . intro q_r;refine xea q_r fun b hb e=>?_;split at e;.cases e
    .rename_i q;rw[yX]at e;clear hb;refine xea e fun o' h1 h2=>?_;cases h2;simp only[not_or,Bool.not_eq_true,Option.isSome_eq_false_iff,Option.isNone_iff_eq_none]at q;exact⟨h1,q.1,q.2.1,q.2.2⟩
  .intro q_r;refine xa3 q_r fun h1 h2 h3 h4=>?_;refine⟨a,List.mem_range.mpr (Heap.lt_size h1),?_⟩;rw[zN (by simp[h2,h3,h4]),h1];rfl
theorem news_rest:News h₀ L h (rest h h₀ L ex):=fun p hp=>by
 refine xa3 (mem_rest.mp (show(p.1,p.2)∈_ from hp)) fun a b c d=>?_;exact⟨a,b,d⟩
theorem rest_kept(F:Fr B.hp L h' m)(F0:∀b o,B.hp.get? b=some o->h.get? b=some o)(N:∀p∈rest h B.hp L ex,h'.get? p.1=some p.2):∀a o,h.get? a=some o->a≠L->a∉ex->h'.get? a=some o:=fun a o e h1 h2=>by
 cases q:B.hp.get? a with|none=>exact N (a,o) (mem_rest.mpr ⟨e,h1,h2,q⟩)|some ob=>have :=F0 _ _ q;rw[e]at this;cases this;exact F.keep _ _ q
variable{L:Mu->AS->VQ->Prop}
theorem Up.set:Up h I n h (I.set t n p) (n+1):=⟨Nat.le_succ _,fun _ _ l=>Interp.set_ver _ _ _ _ l,fun _ _ e _ _=>e⟩
theorem SR.adopt(x:SR B s S I)(hn:∀t v o',S.H t=some (v,o')->(I t v).cell≠p.cell)(hb:B.hp.get? p.cell=none)(hor:OR B s.heap (I.set t S.n p) (S.n+1) p o):SR B s (S.alloc t o) (I.set t S.n p):=by
  have lt:=x.lt;refine⟨x.keep,alloc_ind (M:=fun _ v' _=>v'<S.n+1) (xA _) fun _ _ _ _ e=>Nat.lt_succ_of_lt (lt _ _ _ e),alloc_ind (M:=fun t' v' o'=>OR B s.heap (I.set t S.n p) (S.n+1) (I.set t S.n p t' v') o') ?_ fun t' v' o' _ e=>?_,fun t1 v1 o1 t2 v2 o2 e1 e2=>?_,alloc_ind (M:=fun t' v' _=>B.hp.get? (I.set t S.n p t' v').cell=none) ?_ fun t' v' o' _ e=>?_,x.gens,x.os⟩;.rw[Interp.set_self];exact hor
  .rw[Interp.set_ver _ _ _ _ (lt _ _ _ e)];exact(x.obj _ _ _ e).keep .set (fun _ z=>z) fun _ z=>z
  . revert t2 v2 o2;revert t1 v1 o1;refine alloc_ind (M:=fun t1 v1 _=>∀t2 v2 o2,(S.alloc t o).H t2=some (v2,o2)->(I.set t S.n p t1 v1).cell=(I.set t S.n p t2 v2).cell->t1=t2) ?_ fun t1 v1 o1 _ e1=>?_
    .refine alloc_ind (M:=fun t2 v2 _=>(I.set t S.n p t S.n).cell=(I.set t S.n p t2 v2).cell->t=t2) (fun _=>rfl) fun t2 v2 o2 _ e2 q=>?_;rw[Interp.set_self,Interp.set_ver _ _ _ _ (lt _ _ _ e2)]at q;exact absurd q.symm (hn _ _ _ e2)
    . rw[Interp.set_ver _ _ _ _ (lt _ _ _ e1)];refine alloc_ind (M:=fun t2 v2 _=>(I t1 v1).cell=(I.set t S.n p t2 v2).cell->t1=t2) (fun q=>?_) fun t2 v2 o2 _ e2 q=>?_
      .rw[Interp.set_self]at q;exact absurd q (hn _ _ _ e1)
      .rw[Interp.set_ver _ _ _ _ (lt _ _ _ e2)]at q;exact x.inj _ _ _ _ _ _ e1 e2 q
  .rw[Interp.set_self];exact hb
  .rw[Interp.set_ver _ _ _ _ (lt _ _ _ e)];exact x.new _ _ _ e
theorem Ext.adopt(z:Ext W s S I s' S' I')(lt:∀t v o,S'.H t=some (v,o)->v<S'.n)(hn:s.heap.get? p.cell=none):Ext W s S I s' (S'.alloc t o) (I'.set t S'.n p):=by
 refine⟨z.up.trans .set,z.keep,z.old,fun t' v' o' e=>?_⟩;simp only[AS.alloc]at e;by_cases q:t'=t;.rw[zU q]at e;cases e;subst q;rw[Interp.set_self];exact .inr hn
 .rw[zN q]at e;rw[Interp.set_ver _ _ _ _ (lt _ _ _ e)];exact z.fresh _ _ _ e
theorem FR.adopt(y:FR B env h I S m cm)(lt:∀t v o,S.H t=some (v,o)->v<S.n)(hl:p.cell≠env.locals):FR B env h (I.set t S.n p) (S.alloc t o) m cm:=by
 refine⟨y.ns,y.above,y.cell,y.apart,y.cells,fun t' v' o' e=>?_⟩;simp only[AS.alloc]at e;by_cases q:t'=t;.rw[zU q]at e;cases e;subst q;rw[Interp.set_self];exact hl
 .rw[zN q]at e;rw[Interp.set_ver _ _ _ _ (lt _ _ _ e)];exact y.offL _ _ _ e
variable{p:Pos}
theorem kit_new{news:List (Addr×Obj)}(hS:SR B s S I)(hF:FR B env s.heap I S m cm)(hM:MR nc env s.heap I S.n μ m cm)(F':Fr B.hp env.locals h' m)(N':News B.hp env.locals h' (news++rest s.heap B.hp env.locals []))(k:Nat):SR B {s with heap:=h',toks:=k} S I/\Ext (We env) s S I {s with heap:=h',toks:=k} S I/\FR B env h' I S m cm/\MR nc env h' I S.n μ m cm/\(∀a o,s.heap.get? a=some o->a≠env.locals->h'.get? a=some o):=by
 have kp:∀a o,s.heap.get? a=some o->a≠env.locals->h'.get? a=some o:=fun a o e n=>rest_kept F' hS.keep (fun p hp=>(N' p (List.mem_append_right _ hp)).1) a o e n (by simp);have old:∀a,h'.get? a=none->s.heap.get? a=none:=fun a e=>by
  cases q:s.heap.get? a with|none=>rfl|some o=>
   by_cases n:a=env.locals
   .refine xe3a F'.ns fun oL _ _ hL _=>?_;rw[n,hL]at e;cases e
   .rw[kp a o q n]at e;cases e
 have w:=hF.wokE;obtain⟨a,b⟩:=hS.kept (s':={s with heap:=h',toks:=k}) (W:=We env) (fun a o e hw=>kp a o e hw) w.base w.data w.live old rfl rfl;exact⟨a,b,hF.extE hS b F'.ns,hM.up b.up,kp⟩
variable{μ:Mu}
set_option genCtorIdx true in inductive BOp where|add|sub|mul|fdiv|mod|pow|bor|band deriving DecidableEq
noncomputable def BOp.op:BOp->Operator|.add=>.Add|.sub=>.Sub|.mul=>.Mult|.fdiv=>.FloorDiv|.mod=>.Mod|.pow=>.Pow|.bor=>.BitOr|.band=>.BitAnd
set_option genCtorIdx true in inductive COp where|eq|ne|lt|le|gt|ge|is_|isNot|in_|notIn deriving DecidableEq
noncomputable def COp.op:COp->CmpOp|.eq=>.Eq|.ne=>.NotEq|.lt=>.Lt|.le=>.LtE|.gt=>.Gt|.ge=>.GtE|.is_=>.Is|.isNot=>.IsNot|.in_=>.In|.notIn=>.NotIn
variable{op:BOp}
set_option genCtorIdx true in inductive DK where|I|S|T deriving DecidableEq
noncomputable def DK.obj:DK->HObj|.I=>.dictI []|.S=>.dictS []|.T=>.dictT []
inductive KeyF where|fn(f:Fn)|abs
mutual inductive X where|lc(i:Nat)|none|tru|fls|int(i:Int)|str(s:Str)|gl(x:Str)|at(e:X)(a:At)|neg(e:X)|not(e:X)|bin(op:BOp)(l r:X)|cmp(op:COp)(l r:X)|cmp2(l:X)(o:COp)(m:X)(p:COp)(r:X)|and(l r:X)|or(l r:X)|or3(l m r:X)|ite(c t f:X)|tup(es:Xs)|lst(es:Xs)|dict0|dictS(k:Str)(e:X)(k':Str)(e':X)|sub(e i:X)|sliceTo(e n:X)|sliceFrom(e n:X)|rev(e:X)|last1(e:X)|call(f:Fn)(es:Xs)|meth(e:X)(f:Fn)(es:Xs)|new(c:Cls)(es:Xs)|superInit(es:Xs)|len(e:X)|abs(e:X)|min(a b:X)|toList(e:X)|toTuple(e:X)|sorted(e:X)(k:KeyF)|sortBy(e:X)(self:X)|app(e x:X)|pop(e:X)|ext(e x:X)|setdef(e k v:X)|comp(elt:X)(is:List Nat)(src:Sr)(test:Xs)(nc:NC)|comp2(elt:X)(i:Nat)(src:Sr)(j:Nat)(src2:X)(test:Xs)(nc:NC)inductive Xs where|nil|cons(e:X)(r:Xs)inductive Sr where|of(e:X)|rng(a b c:X)(n:Nat)|enum(e:X)end
inductive Tg where|nm(i:Nat)|at(e:X)(a:At)|sub(e i:X)|nms(is:List Nat)|sub2(e i e' i':X)
mutual inductive St where|ex(e:X)|asg(t:Tg)(e:X)|ifs(c:X)(a b:Sts)|whl(c:X)(b:Sts)|for_(is:List Nat)(src:Sr)(b:Sts)|ret(e:X)|ret0|brk|cont|boom inductive Sts where|nil|cons(s:St)(r:Sts)end
noncomputable def glbV(x:Str):Option Val:=if x="UNKNOWN"then some (.int 0)else if x="TRUE"then some (.int 1)else if x="FALSE"then some (.int (-1))else if x="NO_CLAUSE"then some (.int (-1))else if x="FIRST_STEP"then some (.int 1024)else if x="RULES"then some (.tup [.str "input",.str "define",.str "ite_term",.str "three",.str "bits",.str "congruence",.str "farkas",.str "branch",.str "divide",.str "cut",.str "resolve"])else none
mutual noncomputable def Val.py:Val->Option PyData|.none=>some .none|.bool b=>some (.bool b)|.int i=>some (.int i)|.str s=>some (.str s)|.tup vs=>(pys vs).map .tuple|.loc _ _=>Option.none|.raw _=>Option.none noncomputable def pys:List Val->Option (List PyData)|[]=>some []|v::r=>match v.py,pys r with|some a,some b=>some (a::b)|_,_=>Option.none end
noncomputable def AS.listAt(S:AS):Val->Option (List Val)
 |.loc t v=>match S.H t with
  |some (m,.list xs)=>if m=v then some xs else none|_=>none
 |_=>none
noncomputable def AS.data(S:AS)(v:Val):Option PyData:=match v.py with|some d=>some d|none=>match S.listAt v with|some xs=>(pys xs).map .list|none=>none
abbrev VQ:=Val->AS->Prop
inductive attrGet(v:Val)(a:At)(S:AS)(Q:VQ):Prop|mk{t:Tag}{n:Nat}{c:Cls}{at_:At->Option Val}{x:Val}:v=.loc t n->S.H t=some (n,.inst c at_)->okAt c a=true->at_ a=some x->Q x S->attrGet v a S Q
def lstOp(op:BOp)(x y:Val)(S:AS)(Q:VQ):Prop:=op=.add/\∃xs ys,S.listAt x=some xs/\S.listAt y=some ys/\xs.length+ys.length<=1000/\∃t,Q (.loc t S.n) (S.alloc t (.list (xs++ys)))
def intOp(op:BOp)(a b:Int)(S:AS)(Q:VQ):Prop:=match op with|.add=>Q (.int (a+b)) S|.sub=>Q (.int (a-b)) S|.mul=>IntMulOk a b/\Q (.int (a*b)) S|.fdiv=>b≠0/\Builtin.divisionGoesByPylong a b=false/\Q (.int (a.fdiv b)) S|.mod=>b≠0/\Q (.int (a.fmod b)) S|.pow=>0<=b/\(Builtin.Int.intBits a:Int)*b<=2^27/\Q (.int (a^b.toNat)) S|.bor=>∃p q:Nat,a=p/\b=q/\Q (.int ((p|||q:Nat):Int)) S|.band=>∃p q:Nat,a=p/\b=q/\Q (.int ((p&&&q:Nat):Int)) S
def binOp(op:BOp)(x y:Val)(S:AS)(Q:VQ):Prop:=match x with|.int a=>(match y with|.int b=>intOp op a b S Q|_=>lstOp op x y S Q)|.tup a=>(match y with|.tup b=>op=.add/\a.length+b.length<=1000/\Q (.tup (a++b)) S|_=>lstOp op x y S Q)|_=>lstOp op x y S Q
noncomputable def cmpInt(op:COp)(a b:Int):Option Bool:=match op with|.eq=>some (a==b)|.ne=>some (a !=b)|.lt=>some (decide (a<b))|.le=>some (decide (a<=b))|.gt=>some (decide (a>b))|.ge=>some (decide (a≥b))|_=>none
noncomputable def isNone:Val->Option Bool|.none=>some true|.raw _=>none|_=>some false
noncomputable def AS.flat(S:AS)(v:Val):Option PyData:=match S.data v with|some d=>if SeqAt.shaped d then some d else none|none=>none
inductive isOp(neg:Bool)(x y:Val)(S:AS)(Q:VQ):Prop|mk:y=.none->(b:Bool)->isNone x=some b->Q (.bool (b^^neg)) S->isOp neg x y S Q
inductive inSeq(neg:Bool)(x:Val)(xs:List Val)(S:AS)(Q:VQ):Prop|mk(d:PyData)(ds:List PyData):x.py=some d->pys xs=some ds->SeqAt.shaped d=true->PyData.canLayAll0 ds=true->Q (.bool (ds.any (fun e=>PyData.eqv e d)^^neg)) S->inSeq neg x xs S Q
inductive inOp(neg:Bool)(x y:Val)(S:AS)(Q:VQ):Prop|dictI{t:Tag}{v:Nat}{kvs:List (Int×Val)}{k:Int}:y=.loc t v->x=.int k->S.H t=some (v,.dictI kvs)->Q (.bool ((kvs.map (·.1)).contains k^^neg)) S->inOp neg x y S Q|list{t:Tag}{v:Nat}{xs:List Val}:y=.loc t v->S.H t=some (v,.list xs)->inSeq neg x xs S Q->inOp neg x y S Q|tup{xs:List Val}:y=.tup xs->inSeq neg x xs S Q->inOp neg x y S Q
inductive eqOp(neg:Bool)(x y:Val)(S:AS)(Q:VQ):Prop|int{a b:Int}:x=.int a->y=.int b->Q (.bool ((a==b)^^neg)) S->eqOp neg x y S Q|str{a b:Str}:x=.str a->y=.str b->Q (.bool ((a==b)^^neg)) S->eqOp neg x y S Q|data{d e:PyData}:S.flat x=some d->S.flat y=some e->SeqAt.noMix d e=true->Q (.bool (PySem.Spec.same d e^^neg)) S->eqOp neg x y S Q
inductive ordOp(op:COp)(x y:Val)(S:AS)(Q:VQ):Prop|mk{a b:Int}{r:Bool}:x=.int a->y=.int b->cmpInt op a b=some r->Q (.bool r) S->ordOp op x y S Q
def cmpOp(op:COp)(x y:Val)(S:AS)(Q:VQ):Prop:=match op with|.is_=>isOp false x y S Q|.isNot=>isOp true x y S Q|.in_=>inOp false x y S Q|.notIn=>inOp true x y S Q|.eq=>eqOp false x y S Q|.ne=>eqOp true x y S Q|op=>ordOp op x y S Q
abbrev Mu:=List (Option Val)
def onB(v:Val)(K:Bool->Prop):Prop:=match v with|.bool b=>K b|_=>False
noncomputable def AS.seqOf(S:AS):Val->Option (List Val)|.tup vs=>some vs|v=>S.listAt v
noncomputable def idxOf(k:Int)(n:Nat):Option Nat:=if 0<=k then(if k<n then some k.toNat else none)else(if 0<=k+n then some (k+n).toNat else none)
noncomputable def intsOf:List Val->Option (List Int)|[]=>some []|.int i::r=>(intsOf r).map (i::.)|_=>none
inductive itemGet(o k:Val)(S:AS)(Q:VQ):Prop|tup{vs:List Val}{i:Int}{j:Nat}{x:Val}:o=.tup vs->k=.int i->i.natAbs<1000->idxOf i vs.length=some j->vs[j]?=some x->Q x S->itemGet o k S Q|list{vs:List Val}{i:Int}{j:Nat}{x:Val}:S.listAt o=some vs->k=.int i->i.natAbs<1000->vs.length<=1000->idxOf i vs.length=some j->vs[j]?=some x->Q x S->itemGet o k S Q|dictS{t:Tag}{v:Nat}{kvs:List (Str×Val)}{s:Str}{x:Val}:o=.loc t v->k=.str s->S.H t=some (v,.dictS kvs)->kvs.lookup s=some x->Q x S->itemGet o k S Q
noncomputable def putI(kvs:List (Int×Val))(k:Int)(v:Val):List (Int×Val):=if kvs.any (fun p=>decide (p.1=k))then kvs.map (fun p=>if p.1=k then(p.1,v)else p)else kvs++[(k,v)]
noncomputable def putS(kvs:List (Str×Val))(k:Str)(v:Val):List (Str×Val):=if kvs.any (fun p=>decide (p.1=k))then kvs.map (fun p=>if p.1=k then(p.1,v)else p)else kvs++[(k,v)]
noncomputable def putT(kvs:List (List Int×Val))(k:List Int)(v:Val):List (List Int×Val):=if kvs.any (fun p=>decide (p.1=k))then kvs.map (fun p=>if p.1=k then(p.1,v)else p)else kvs++[(k,v)]
inductive itemSet(o k v:Val)(S:AS)(K:AS->Prop):Prop|list{t:Tag}{n:Nat}{xs:List Val}{i:Int}:o=.loc t n->k=.int i->S.H t=some (n,.list xs)->xs.length<=1000->0<=i->i<xs.length->K (S.put t n (.list (xs.set i.toNat v)))->itemSet o k v S K|dictI{t:Tag}{n:Nat}{kvs:List (Int×Val)}{i:Int}:o=.loc t n->k=.int i->S.H t=some (n,.dictI kvs)->kvs.length<=1000->K (S.put t n (.dictI (putI kvs i v)))->itemSet o k v S K|dictS{t:Tag}{n:Nat}{kvs:List (Str×Val)}{i:Str}:o=.loc t n->k=.str i->S.H t=some (n,.dictS kvs)->kvs.length<=1000->K (S.put t n (.dictS (putS kvs i v)))->itemSet o k v S K|dictT{t:Tag}{n:Nat}{kvs:List (List Int×Val)}{l:List Val}{is:List Int}:o=.loc t n->k=.tup l->S.H t=some (n,.dictT kvs)->kvs.length<=1000->intsOf l=some is->K (S.put t n (.dictT (putT kvs is v)))->itemSet o k v S K
inductive attrSet(o:Val)(a:At)(v:Val)(S:AS)(K:AS->Prop):Prop|mk{t:Tag}{n:Nat}{c:Cls}{at_:At->Option Val}:o=.loc t n->S.H t=some (n,.inst c at_)->K (S.put t n (.inst c (fun b=>if b=a then some v else at_ b)))->attrSet o a v S K
noncomputable def Fn.at(f:Fn):Option At:=if f=.t_place then some .place else Option.none
theorem Fn.at_of(f:Fn):At.ofNm f.nm=f.at:=by cases f<;>kernel_rfl
theorem Fn.at_eq{a:At}(h:f.at=some a):f=.t_place/\a=.place:=by
 unfold Fn.at at h;by_cases c:f=.t_place;.rw[zU c]at h;exact⟨c,(zS h).symm⟩
 .rw[zN c]at h;exact ns h
inductive isInst(o:Val)(f:Fn)(S:AS):Prop|mk{t:Tag}{n:Nat}{c:Cls}{at_:At->Option Val}:o=.loc t n->S.H t=some (n,.inst c at_)->methOf c f=true->(∀a,f.at=some a->at_ a=Option.none)->isInst o f S
inductive lenOf(v:Val)(S:AS)(Q:VQ):Prop|mk(xs:List Val):S.seqOf v=some xs->xs.length<=1000->Q (.int xs.length) S->lenOf v S Q
@[irreducible]def glGet(x:Str)(S:AS)(Q:VQ):Prop:=match glbV x with|some v=>Q v S|none=>False
inductive appTo(o v:Val)(S:AS)(Q:VQ):Prop|mk{t:Tag}{n:Nat}{xs:List Val}:o=.loc t n->S.H t=some (n,.list xs)->xs.length<=1000->Q .none (S.put t n (.list (xs++[v])))->appTo o v S Q
inductive popFrom(o:Val)(S:AS)(Q:VQ):Prop|mk{t:Tag}{n:Nat}{xs:List Val}{x:Val}:o=.loc t n->S.H t=some (n,.list xs)->xs.length<=1000->xs.getLast?=some x->Q x (S.put t n (.list xs.dropLast))->popFrom o S Q
inductive extTo(o v:Val)(S:AS)(Q:VQ):Prop|mk{t t':Tag}{n n':Nat}{xs ys:List Val}:o=.loc t n->S.H t=some (n,.list xs)->v=.loc t' n'->t'≠t->S.listAt v=some ys->xs.length+ys.length<=1000->Q .none (S.put t n (.list (xs++ys)))->extTo o v S Q
inductive setDf(o k v:Val)(S:AS)(Q:VQ):Prop|mk{t:Tag}{n:Nat}{kvs:List (Int×Val)}{i:Int}:o=.loc t n->k=.int i->S.H t=some (n,.dictI kvs)->kvs.length<=1000->(match kvs.lookup i with|some x=>Q x S|none=>Q v (S.put t n (.dictI (kvs++[(i,v)]))))->setDf o k v S Q
inductive newL(xs:List Val)(S:AS)(Q:VQ):Prop|mk:xs.length<=1000->(t:Tag)->Q (.loc t S.n) (S.alloc t (.list xs))->newL xs S Q
inductive cmp2Q(o:COp)(x y:Val)(T:Int->Prop)(F:Prop):Prop|mk{a b:Int}{t:Bool}:x=.int a->y=.int b->cmpInt o a b=some t->(t=true->T b)->(t=false->F)->cmp2Q o x y T F
structure WE where
 C:Fn->List Val->AS->VQ->Prop
 scrA:Addr
 scr:List Int
noncomputable def rngVals(a b c:Int):List Val:=(List.range (Builtin.Range.rangeSize a b c).toNat).map fun i:Nat=>.int (a+c*(i:Int))
noncomputable def enumVals(xs:List Val):List Val:=xs.zipIdx.map fun p=>.tup [.int p.2,p.1]
noncomputable def setAll:List Nat->List Val->Mu->Mu|i::is,x::xs,μ=>setAll is xs (μ.set i (some x))|_,_,μ=>μ
def bindNames(is:List Nat)(x:Val)(μ:Mu)(K:Mu->Prop):Prop:=match is with|[i]=>i<μ.length/\K (μ.set i (some x))|is=>∃vs,x=.tup vs/\vs.length=is.length/\(∀i∈is,i<μ.length)/\K (setAll is vs μ)
noncomputable def insK(key:Val->Int)(x:Val):List Val->List Val|[]=>[x]|y::r=>if key x<=key y then x::y::r else y::insK key x r
noncomputable def sortK(key:Val->Int):List Val->List Val|[]=>[]|x::r=>insK key x (sortK key r)
def keysApart(key:Val->Int)(xs:List Val):Prop:=xs.Pairwise fun x y=>key x≠key y
def keyPair(k:Int)(r:Val):Prop:=∃z,r=.tup [.int k,z]
def keysOk(E:WE)(k:KeyF)(xs:List Val)(S:AS)(key:Val->Int):Prop:=keysApart key xs/\match k with|.abs=>∀x∈xs,∃i:Int,x=.int i/\key x=(i.natAbs:Int)|.fn f=>xs.length<=3/\∀x∈xs,E.C f [x] S fun r S'=>keyPair (key x) r/\S'=S
noncomputable def compO(inner:Val->List Val->AS->(List Val->AS->Prop)->Prop)(chk:AS->Prop):List Val->List Val->AS->(List Val->AS->Prop)->Prop|[],acc,S,Q=>chk S/\acc.length<=1000/\Q acc S|x::r,acc,S,Q=>chk S/\acc.length<=1000/\inner x acc S fun acc' S'=>compO inner chk r acc' S' Q
mutual noncomputable def wpX(E:WE):X->Mu->AS->VQ->Prop
 |.lc i,μ,S,Q=>match μ[i]? with|some (some v)=>Q v S|_=>False
 |.none,_,S,Q=>Q .none S|.tru,_,S,Q=>Q (.bool true) S|.fls,_,S,Q=>Q (.bool false) S|.int i,_,S,Q=>Q (.int i) S|.str s,_,S,Q=>Q (.str s) S|.gl x,_,S,Q=>glGet x S Q|.at e a,μ,S,Q=>wpX E e μ S fun v S=>attrGet v a S Q|.neg e,μ,S,Q=>wpX E e μ S fun v S=>(match v with|.int i=>Q (.int (-i)) S|_=>False)|.not e,μ,S,Q=>wpX E e μ S fun v S=>onB v fun b=>Q (.bool (!b)) S|.bin op l r,μ,S,Q=>wpX E l μ S fun x S=>wpX E r μ S fun y S=>binOp op x y S Q|.cmp op l r,μ,S,Q=>wpX E l μ S fun x S=>wpX E r μ S fun y S=>cmpOp op x y S Q|.cmp2 l o m p r,μ,S,Q=>wpX E l μ S fun x S=>wpX E m μ S fun y S=>cmp2Q o x y (fun b=>wpX E r μ S fun z S=>ordOp p (.int b) z S Q) (Q (.bool false) S)|.and l r,μ,S,Q=>wpX E l μ S fun v S=>onB v fun b=>if b=true then wpX E r μ S (fun v S=>onB v fun b=>Q (.bool b) S)else Q (.bool false) S|.or l r,μ,S,Q=>wpX E l μ S fun v S=>onB v fun b=>if b=true then Q (.bool true) S else wpX E r μ S (fun v S=>onB v fun b=>Q (.bool b) S)|.or3 l m r,μ,S,Q=>wpX E l μ S fun v S=>onB v fun b=>if b=true then Q (.bool true) S else(wpX E m μ S fun v S=>onB v fun b=>if b=true then Q (.bool true) S else wpX E r μ S (fun v S=>onB v fun b=>Q (.bool b) S))|.ite c t f,μ,S,Q=>wpX E c μ S fun v S=>onB v fun b=>if b=true then wpX E t μ S Q else wpX E f μ S Q|.tup es,μ,S,Q=>wpXs E es μ S fun vs S=>vs.length<=1000/\Q (.tup vs) S|.lst es,μ,S,Q=>wpXs E es μ S fun vs S=>newL vs S Q|.dict0,_,S,Q=>∃t k,Q (.loc t S.n) (S.alloc t (DK.obj k))|.dictS k e k' e',μ,S,Q=>k≠k'/\wpX E e μ S fun v S=>wpX E e' μ S fun v' S=>∃t,Q (.loc t S.n) (S.alloc t (.dictS [(k,v),(k',v')]))|.sub e i,μ,S,Q=>wpX E e μ S fun o S=>wpX E i μ S fun k S=>itemGet o k S Q|.sliceTo e n,μ,S,Q=>wpX E e μ S fun o S=>wpX E n μ S fun k S=>(match k with|.int i=>0<=i/\i<1000/\((o=.raw (.ref E.scrA)/\newL ((E.scr.take i.toNat).map .int) S Q)\/∃xs,S.listAt o=some xs/\xs.length<=1000/\newL (xs.take i.toNat) S Q)|_=>False)|.sliceFrom e n,μ,S,Q=>wpX E e μ S fun o S=>wpX E n μ S fun k S=>(match k with|.int i=>0<=i/\i<1000/\∃xs,S.listAt o=some xs/\xs.length<=1000/\newL (xs.drop i.toNat) S Q|_=>False)|.rev e,μ,S,Q=>wpX E e μ S fun o S=>∃xs,S.listAt o=some xs/\newL xs.reverse S Q|.last1 e,μ,S,Q=>wpX E e μ S fun o S=>∃xs,S.listAt o=some xs/\xs.length<=1000/\newL (xs.drop (xs.length-1)) S Q|.call f es,μ,S,Q=>wpXs E es μ S fun vs S=>E.C f vs S Q|.meth e f es,μ,S,Q=>wpX E e μ S fun o S=>isInst o f S/\wpXs E es μ S fun vs S=>E.C f (o::vs) S Q|.new c es,μ,S,Q=>wpXs E es μ S fun vs S=>∃t,E.C (initOf c) (.loc t S.n::vs) (S.alloc t (.inst c fun _=>Option.none)) fun r S'=>r=.none/\Q (.loc t S.n) S'|.superInit es,μ,S,Q=>(match μ[0]? with|some (some self)=>wpXs E es μ S fun vs S=>E.C .t_init (self::vs) S Q|_=>False)|.len e,μ,S,Q=>wpX E e μ S fun v S=>lenOf v S Q|.abs e,μ,S,Q=>wpX E e μ S fun v S=>(match v with|.int i=>Q (.int (i.natAbs:Int)) S|_=>False)|.min a b,μ,S,Q=>wpX E a μ S fun x S=>wpX E b μ S fun y S=>(match x,y with|.int i,.int j=>Q (.int (Min.min i j)) S|_,_=>False)|.toList e,μ,S,Q=>wpX E e μ S fun v S=>(match v with|.tup vs=>newL vs S Q|.loc t n=>(match S.H t with|some (m,.list xs)=>m=n/\newL xs S Q|some (m,.dictT kvs)=>m=n/\newL (kvs.map fun p=>.tup (p.1.map .int)) S Q|_=>False)|_=>False)|.toTuple e,μ,S,Q=>wpX E e μ S fun v S=>∃xs,S.seqOf v=some xs/\xs.length<=1000/\Q (.tup xs) S|.sorted e k,μ,S,Q=>wpX E e μ S fun v S=>∃xs,(S.seqOf v=some xs\/∃t n kvs,v=.loc t n/\S.H t=some (n,.dictI kvs)/\xs=kvs.map (fun p=>.int p.1))/\xs.length<60/\∃key,keysOk E k xs S key/\newL (sortK key xs) S Q|.sortBy e self,μ,S,Q=>wpX E e μ S fun v S=>(∃t n xs,v=.loc t n/\S.H t=some (n,.list xs))/\wpX E self μ S fun o S=>∃t n xs,∃key:Val->Int,v=.loc t n/\S.H t=some (n,.list xs)/\xs.length<=3/\isInst o .t_height S/\(∀x∈xs,E.C .t_height [o,x] (S.del t) fun r S'=>r=.int (key x)/\S'=S.del t)/\Q .none (S.put t n (.list (sortK (fun x=>-key x) xs)))|.app e x,μ,S,Q=>wpX E e μ S fun o S=>(∃t n xs,o=.loc t n/\S.H t=some (n,.list xs))/\wpX E x μ S fun v S=>appTo o v S Q|.pop e,μ,S,Q=>wpX E e μ S fun o S=>popFrom o S Q|.ext e x,μ,S,Q=>wpX E e μ S fun o S=>(∃t n xs,o=.loc t n/\S.H t=some (n,.list xs))/\wpX E x μ S fun v S=>extTo o v S Q|.setdef e k v,μ,S,Q=>wpX E e μ S fun o S=>(∃t n xs,o=.loc t n/\S.H t=some (n,.dictI xs))/\wpX E k μ S fun k S=>wpX E v μ S fun v S=>setDf o k v S Q|.comp elt is src test _,μ,S,Q=>(∀i∈is,μ[i]?=some Option.none)/\wpSr E src μ S fun items chk S=>compO (fun x acc S K=>bindNames is x μ fun μ'=>wpT1 E test μ' S fun b S=>match b with|true=>wpX E elt μ' S fun v S=>K (acc++[v]) S|false=>K acc S) chk items [] S fun acc S=>newL acc S Q|.comp2 elt i src j src2 test _,μ,S,Q=>(μ[i]?=some Option.none/\μ[j]?=some Option.none/\i≠j)/\wpSr E src μ S fun items chk S=>compO (fun x acc S K=>bindNames [i] x μ fun μ'=>wpX E src2 μ' S fun v S=>∃items2,S.seqOf v=some items2/\items2.length<=1000/\compO (fun y acc S K=>bindNames [j] y μ' fun μ2=>wpT1 E test μ2 S fun b S=>match b with|true=>wpX E elt μ2 S fun v S=>K (acc++[v]) S|false=>K acc S) (fun S'=>S'.seqOf v=some items2) items2 acc S K) chk items [] S fun acc S=>newL acc S Q noncomputable def wpXs(E:WE):Xs->Mu->AS->(List Val->AS->Prop)->Prop|.nil,_,S,Q=>Q [] S|.cons e r,μ,S,Q=>wpX E e μ S fun v S=>wpXs E r μ S fun vs S=>Q (v::vs) S noncomputable def wpT1(E:WE):Xs->Mu->AS->(Bool->AS->Prop)->Prop|.nil,_,S,Q=>Q true S|.cons e _,μ,S,Q=>wpX E e μ S fun v S=>onB v fun b=>Q b S noncomputable def wpSr(E:WE):Sr->Mu->AS->(List Val->(AS->Prop)->AS->Prop)->Prop|.of e,μ,S,K=>wpX E e μ S fun v S=>∃items,S.seqOf v=some items/\items.length<=1000/\K items (fun S'=>S'.seqOf v=some items) S|.rng a b c n,μ,S,K=>wpX E a μ S fun x S=>wpX E b μ S fun y S=>wpX E c μ S fun z S=>(match x,y,z with|.int i,.int j,.int k=>i.natAbs<1000/\j.natAbs<1000/\(k=1\/k=-1)/\K (rngVals i j k) (fun _=>True) S|_,_,_=>False)|.enum e,μ,S,K=>wpX E e μ S fun v S=>∃items,S.listAt v=some items/\items.length<=1000/\K (enumVals items) (fun S'=>S'.listAt v=some items) S end
inductive Fl where|next|brk|cont|ret(v:Val)
abbrev SQ:=Fl->Mu->AS->Prop
def wpTg(E:WE):Tg->Val->Mu->AS->(Mu->AS->Prop)->Prop|.nm i,v,μ,S,K=>i<μ.length/\K (μ.set i (some v)) S|.at e a,v,μ,S,K=>wpX E e μ S fun o S=>attrSet o a v S fun S=>K μ S|.sub e i,v,μ,S,K=>wpX E e μ S fun o S=>wpX E i μ S fun k S=>itemSet o k v S fun S=>K μ S|.nms is,v,μ,S,K=>∃vs,v=.tup vs/\vs.length=is.length/\(∀i∈is,i<μ.length)/\K (setAll is vs μ) S|.sub2 e i e' i',v,μ,S,K=>∃x y,v=.tup [x,y]/\wpX E e μ S fun o S=>wpX E i μ S fun k S=>itemSet o k x S fun S=>wpX E e' μ S fun o' S=>wpX E i' μ S fun k' S=>itemSet o' k' y S fun S=>K μ S
noncomputable def forO(turn:Val->Mu->AS->SQ->Prop)(chk:AS->Prop):List Val->Mu->AS->SQ->Prop|[],μ,S,Q=>chk S/\Q .next μ S|x::r,μ,S,Q=>chk S/\turn x μ S fun fl μ S=>match fl with|.next|.cont=>forO turn chk r μ S Q|.brk=>Q .next μ S|.ret v=>Q (.ret v) μ S
noncomputable def whO(c:Mu->AS->(Bool->AS->Prop)->Prop)(b:Mu->AS->SQ->Prop):Nat->Mu->AS->SQ->Prop|0,_,_,_=>False|n+1,μ,S,Q=>c μ S fun t S=>match t with|false=>Q .next μ S|true=>b μ S fun fl μ S=>match fl with|.next|.cont=>whO c b n μ S Q|.brk=>Q .next μ S|.ret v=>Q (.ret v) μ S
def wpB(E:WE)(e:X)(μ:Mu)(S:AS)(Q:Bool->AS->Prop):Prop:=wpX E e μ S fun v S=>onB v fun b=>Q b S
mutual noncomputable def wpSt(E:WE):St->Mu->AS->SQ->Prop
 |.ex e,μ,S,Q=>wpX E e μ S fun v S=>(match v with|.tup _|.loc _ _|.raw _=>False|_=>Q .next μ S)|.asg t e,μ,S,Q=>wpX E e μ S fun v S=>wpTg E t v μ S fun μ S=>Q .next μ S|.ifs c a b,μ,S,Q=>wpB E c μ S fun t S=>match t with|true=>wpSts E a μ S Q|false=>wpSts E b μ S Q
 |.whl c b,μ,S,Q=>∃n,whO (wpB E c) (wpSts E b) n μ S Q|.for_ is src b,μ,S,Q=>wpSr E src μ S fun items chk S=>forO (fun x μ S K=>bindNames is x μ fun μ=>wpSts E b μ S K) chk items μ S Q|.ret e,μ,S,Q=>wpX E e μ S fun v S=>Q (.ret v) μ S|.ret0,μ,S,Q=>Q (.ret .none) μ S|.brk,μ,S,Q=>Q .brk μ S|.cont,μ,S,Q=>Q .cont μ S|.boom,_,_,_=>False noncomputable def wpSts(E:WE):Sts->Mu->AS->SQ->Prop|.nil,μ,S,Q=>Q .next μ S|.cons s r,μ,S,Q=>wpSt E s μ S fun fl μ S=>match fl with|.next=>wpSts E r μ S Q|fl=>Q fl μ S end
def VRw(h:Heap)(I:Interp)(n:Nat)(v:Value):Val->Prop|.none=>v=.none|.bool b=>v=.bool b|.int i=>∃t,v=.int i t|.str s=>∃t,v=.str s t|.tup xs=>∃a items,v=.ref a/\h.get? a=some {cls:=.type "tuple",data:=.seq items.toArray}/\VRs h I n items xs|.loc t m=>v=.ref (I t m).id/\m<n|.raw w=>∃a,v=.ref a/\w=.ref a
theorem VR.w(r:VR h I n v x):VRw h I n v x:=by
 cases r with|none=>rfl|bool b=>rfl|int i t=>exact⟨t,rfl⟩|str s t=>exact⟨t,rfl⟩|tup g r=>exact⟨_,_,rfl,g,r⟩|loc l=>exact⟨rfl,l⟩|raw a=>exact⟨a,rfl,rfl⟩
def VRsw(h:Heap)(I:Interp)(n:Nat)(vs:List Value):List Val->Prop|[]=>vs=[]|x::xs=>∃v us,vs=v::us/\VR h I n v x/\VRs h I n us xs
theorem VRs.w(r:VRs h I n vs xs):VRsw h I n vs xs:=by
 cases r with|nil=>rfl|cons a b=>exact⟨_,_,rfl,a,b⟩
variable{w:Value}
theorem VR.int_inv(r:VR h I n v (.int i)):∃t,v=.int i t:=r.w
theorem VR.str_inv{i:Str}(r:VR h I n v (.str i)):∃t,v=.str i t:=r.w
theorem VR.loc_inv{m:Nat}(r:VR h I n v (.loc t m)):v=.ref (I t m).id/\m<n:=r.w
theorem VR.tup_inv(r:VR h I n v (.tup xs)):∃a items,v=.ref a/\h.get? a=some {cls:=.type "tuple",data:=.seq items.toArray}/\VRs h I n items xs:=r.w
theorem VRs.cons_inv(r:VRs h I n vs (x::xs)):∃v us,vs=v::us/\VR h I n v x/\VRs h I n us xs:=r.w
theorem VR.none_inv(r:VR h I n v .none):v=.none:=r.w
structure Rm(A:Around)(d:Nat):Prop where
 depth:A.depth+10*d<=900
 units:A.units+100*d<=9000
 handled:A.handled=none
structure FC(B:Base)(A:Around)(env:Env)(d:Nat):Prop where
 kind:env.scope.kind=.function
 glob:env.globals=mainGlobals
 blt:env.builtins=builtinsNs
 depth:A.depth+10*d+5<=900
 units:A.units+100*d+50<=9000
 handled:A.handled=none
 cells:∀x k,env.scope.names.lookup x=some k->(k=.cell\/k=.free)->(env.cells.lookup x).isSome=true
inductive EvQ(B:Base)(nc:NC)(env:Env)(μ:Mu)(s:Shared)(S:AS)(I:Interp)(Q:VQ)(v:Value)(s':Shared):Prop|mk(x:Val)(S':AS)(I':Interp)(q:Q x S')(hS:SR B s' S' I')(hE:Ext (We env) s S I s' S' I')(hL:LR B nc env s'.heap I' S' μ)(hv:VR s'.heap I' S'.n v x)
abbrev EvS(B:Base)(A:Around)(nc:NC)(env:Env)(t:Sem Value)(μ:Mu)(s:Shared)(S:AS)(I:Interp)(Q:VQ):Prop:=wpAny (model B.prog B.w) A t (EvQ B nc env μ s S I Q) (fun _ _=>False) s
def EvJ(B:Base)(A:Around)(nc:NC)(env:Env)(t:Sem Value)(μ:Mu)(S:AS)(Q:VQ):Prop:=∀s I,SR B s S I->LR B nc env s.heap I S μ->EvS B A nc env t μ s S I Q
theorem EvS.tail{t:Sem Value}(e:Ext (We env) s S I s₁ S₁ I₁)(h:EvS B A nc env t μ s₁ S₁ I₁ Q):wpAny (model B.prog B.w) A t (EvQ B nc env μ s S I Q) (fun _ _=>False) s₁:=zB h (fun v s' q=>by obtain⟨x,S',I',q,a,b,c,f⟩:=q;exact⟨x,S',I',q,a,e.trans b,c,f⟩) fun _ _ z=>z
theorem EvQ.pure(k:Nat)(hS:SR B s S I)(hL:LR B nc env s.heap I S μ)(hv:VR s.heap I S.n v x)(q:Q x S):EvQ B nc env μ s S I Q v {s with toks:=k}:=⟨x,S,I,q,hS.toks k,Ext.refl.toks k,hL,hv⟩
theorem EvQ.same(hS:SR B s S I)(hL:LR B nc env s.heap I S μ)(hv:VR s.heap I S.n v x)(q:Q x S):EvQ B nc env μ s S I Q v s:=⟨x,S,I,q,hS,Ext.refl,hL,hv⟩
variable{x:Str}
theorem ev2{t₁ t₂:Sem Value}{f:Value->Value->Sem Value}{R:Val->AS->VQ->VQ}{P:Val->Val->AS->Prop}(h₁:EvJ B A nc env t₁ μ S fun x S₁=>EvJ B A nc env t₂ μ S₁ fun y S₂=>P x y S₂)(hf:∀v w x y s S I,SR B s S I->LR B nc env s.heap I S μ->VR s.heap I S.n v x->VR s.heap I S.n w y->P x y S->EvS B A nc env (f v w) μ s S I Q)(hS:SR B s S I)(hL:LR B nc env s.heap I S μ):wpAny (model B.prog B.w) A t₁ (fun v s₁=>wpAny (model B.prog B.w) A t₂ (fun w s₂=>wpAny (model B.prog B.w) A (f v w) (EvQ B nc env μ s S I Q) (fun _ _=>False) s₂) (fun _ _=>False) s₁) (fun _ _=>False) s:=by
 refine zB (h₁ s I hS hL) ?_ fun _ _ z=>z;rintro v s₁⟨x,S₁,I₁,q₁,hS₁,hE₁,hL₁,hv⟩;refine zB (q₁ s₁ I₁ hS₁ hL₁) ?_ fun _ _ z=>z;rintro w s₂⟨y,S₂,I₂,q₂,hS₂,hE₂,hL₂,hw⟩;exact EvS.tail (hE₁.trans hE₂) (hf v w x y s₂ S₂ I₂ hS₂ hL₂ (hv.up hE₂.up) hw q₂)
theorem ev1{t:Sem Value}{f:Value->Sem Value}{P:Val->AS->Prop}(h:EvJ B A nc env t μ S P)(hf:∀v x s S I,SR B s S I->LR B nc env s.heap I S μ->VR s.heap I S.n v x->P x S->EvS B A nc env (f v) μ s S I Q)(hS:SR B s S I)(hL:LR B nc env s.heap I S μ):wpAny (model B.prog B.w) A t (fun v s₁=>wpAny (model B.prog B.w) A (f v) (EvQ B nc env μ s S I Q) (fun _ _=>False) s₁) (fun _ _=>False) s:=by
 refine zB (h s I hS hL) ?_ fun _ _ z=>z;rintro v s₁⟨x,S₁,I₁,q₁,hS₁,hE₁,hL₁,hv⟩;exact EvS.tail hE₁ (hf v x s₁ S₁ I₁ hS₁ hL₁ hv q₁)
theorem ev_local{i:Nat}(C:FC B A env d)(hx:x≠CLS)(hn:nc.lookup x=some i)(hk:env.kindOf x=some .local\/env.kindOf x=some .cell\/env.kindOf x=some .free)(hd:(x==("__debug__":Str))=false)(hc:(x==("__classdict__":Str))=false)(hy:μ[i]?=some (some y))(q:Q y S):EvJ B A nc env (eval (.Name x pos) env) μ S Q:=by
  intro s I hS hL;obtain⟨m,cm,hF,hM⟩:=hL;refine xea (hM x i hn y hy) fun v hv r=>?_;have fin:EvQ B nc env μ s S I Q v s:=EvQ.same hS ⟨m,cm,hF,hM⟩ r q;refine wpAny_Name ?_ hd;rcases hv with⟨k,e⟩|⟨k,e,l⟩;.exact wpAny_loadName_local C.kind k hF.ns e fin
  . obtain⟨c,hc'⟩:=Option.isSome_iff_exists.mp l;have cc:=hF.cell x c hx hc';rw[e]at cc;rcases k with k|k;.exact wpAny_loadName_cell C.kind k hc' cc fin
    .exact wpAny_loadName_free C.kind k hc' cc fin hc
theorem ev_none(q:Q .none S):EvJ B A nc env (eval (.Constant .none k pos) env) μ S Q:=fun s I hS hL=>wpAny_Constant_none (EvQ.same hS hL .none q)
theorem ev_bool(q:Q (.bool b) S):EvJ B A nc env (eval (.Constant (.bool b) k pos) env) μ S Q:=fun s I hS hL=>wpAny_Constant_bool (EvQ.same hS hL (.bool b) q)
theorem ev_int(q:Q (.int i) S):EvJ B A nc env (eval (.Constant (.int i) k pos) env) μ S Q:=fun s I hS hL=>wpAny_Constant_int (EvQ.pure _ hS hL (.int i _) q)
theorem ev_str(q:Q (.str x) S):EvJ B A nc env (eval (.Constant (.str x) k pos) env) μ S Q:=fun s I hS hL=>wpAny_Constant_str (EvQ.pure _ hS hL (.str x _) q)
theorem ev_global(C:FC B A env d)(hk:env.kindOf x=some .globalImplicit)(hd:(x==("__debug__":Str))=false)(hv:B.mg x=some v)(hr:∀h I n,(∀b o,B.hp.get? b=some o->h.get? b=some o)->VR h I n v y)(q:Q y S):EvJ B A nc env (eval (.Name x pos) env) μ S Q:=by
 intro s I hS hL;exact Calls.Name_function_global C.kind hk (Calls.loadGlobal_global (by rw[C.glob];exact B.T.g.keeps hS.keep) hv (EvQ.same hS hL (hr _ _ _ hS.keep) q)) hd
theorem ev_builtin(C:FC B A env d)(hk:env.kindOf x=some .globalImplicit)(hd:(x==("__debug__":Str))=false)(hm:B.mg x=none)(hn:x≠"__name__")(hv:bootBuiltins x=some v){P:Value->Shared->Prop}(h:P v s)(hS:SR B s S I):wpAny (model B.prog B.w) A (eval (.Name x pos) env) P (fun _ _=>False) s:=Calls.Name_function_global C.kind hk (Calls.loadGlobal_builtin (mg:=B.mg) (mb:=B.mb) (by rw[C.glob];exact B.T.g.keeps hS.keep) hm (by rw[C.blt];exact B.T.b.keeps hS.keep) ((B.T.builtins x hn).trans hv) h) hd
variable{x:Val}
theorem ev_neg(h:EvJ B A nc env (eval e env) μ S fun v S=>match v with|.int i=>Q (.int (-i)) S|_=>False):EvJ B A nc env (eval (.UnaryOp .USub e pos) env) μ S Q:=by
 intro s I hS hL;refine wpAny_UnaryOp (ev1 h (fun v x s S I hS hL hv p=>?_) hS hL);cases hv<;>first|exact p.elim|skip
 exact P.neg_int (EvQ.pure _ hS hL (.int _ _) p)
theorem ev_not(h:EvJ B A nc env (eval e env) μ S fun v S=>match v with|.bool b=>Q (.bool (!b)) S|_=>False):EvJ B A nc env (eval (.UnaryOp .Not e pos) env) μ S Q:=by
 intro s I hS hL;refine wpAny_UnaryOp (ev1 h (fun v x s S I hS hL hv p=>?_) hS hL);cases hv<;>first|exact p.elim|skip
 exact not_of (wpAny_truthy_bool (EvQ.same hS hL (.bool _) p))
theorem size_none(h:Heap):h.get? h.objs.size=none:=by cases z:h.get? h.objs.size with|none=>rfl|some o=>exact absurd (Heap.lt_size z) (Nat.lt_irrefl _)
theorem EvQ.list{e:Nat}(hS:SR B s S I)(hF:FR B env s.heap I S m cm)(hM:MR nc env s.heap I S.n μ m cm)(hf:s.heap.get? a=none)(hx:VRs s.heap I S.n items.toList xs)(F':Fr B.hp env.locals h' m)(N':News B.hp env.locals h' ((a,{cls:=.type "list",data:=.seq items e})::rest s.heap B.hp env.locals []))(q:Q (.loc t S.n) (S.alloc t (.list xs))):EvQ B nc env μ s S I Q (.ref a) {s with heap:=h',toks:=k}:=by
 refine xa4 (kit_new (news:=[_]) hS hF hM F' N' k) fun S1 E1 F1 M1 kp=>?_;refine xa2 (N' _ (zF ..)) fun n1 n2 n3=>?_;have lt:=S1.lt;have off:∀t v o',S.H t=some (v,o')->(I t v).cell≠a:=fun t v o' e q=>by
  refine xea (hS.shape e) fun ob h _=>?_;rw[q,hf]at h;cases h
 refine⟨_,_,_,q,S1.adopt (p:=⟨a,a⟩) off n3 ?_,E1.adopt (p:=⟨a,a⟩) lt hf,⟨m,cm,F1.adopt lt n2,M1.up .set⟩,?_⟩;.exact⟨rfl,items,e,n1,(hx.up E1.up).up .set⟩
 .have :=VR.loc (h:=h') (I:=I.set t S.n ⟨a,a⟩) (n:=S.n+1) (t:=t) (v:=S.n) (xA _);rw[Interp.set_self]at this;exact this
theorem EvS.newList(hS:SR B s S I)(hL:LR B nc env s.heap I S μ)(hx:VRs s.heap I S.n vs xs)(q:newL xs S Q):EvS B A nc env (newList vs) μ s S I Q:=by
 obtain⟨hl,t,q⟩:=q;obtain⟨m,cm,hF,hM⟩:=hL;refine wpAny_newList ?_ (by rw[yW,hx.length];exact lA 0x70683e33200060303030303031200 tT hl);exact EvQ.list (k:=s.toks) (items:=vs.toArray) hS hF hM (size_none _) (by simpa using hx) ((hS.Fr hF).push _) (news_rest.push (hS.Fr hF) _) q
theorem EvQ.tuple(hS:SR B s S I)(hF:FR B env s.heap I S m cm)(hM:MR nc env s.heap I S.n μ m cm)(hx:VRs s.heap I S.n vs xs)(F':Fr B.hp env.locals h' m)(N':News B.hp env.locals h' ((a,{cls:=.type "tuple",data:=.seq vs.toArray})::rest s.heap B.hp env.locals []))(q:Q (.tup xs) S):EvQ B nc env μ s S I Q (.ref a) {s with heap:=h',toks:=k}:=by
 refine xa4 (kit_new (news:=[_]) hS hF hM F' N' k) fun S1 E1 F1 M1 kp=>?_;refine xa2 (N' _ (zF ..)) fun n1 n2 n3=>?_;exact⟨_,_,_,q,S1,E1,⟨m,cm,F1,M1⟩,.tup n1 (hx.up E1.up)⟩
theorem EvS.newTuple(hS:SR B s S I)(hL:LR B nc env s.heap I S μ)(hx:VRs s.heap I S.n vs xs)(hl:xs.length<=1000)(q:Q (.tup xs) S):EvS B A nc env (newTuple vs) μ s S I Q:=by
 obtain⟨m,cm,hF,hM⟩:=hL;refine wpAny_newTuple ?_ (by rw[yW,hx.length];exact lA 0x70683e33200060303030303031200 tT hl);exact EvQ.tuple (k:=s.toks) hS hF hM hx ((hS.Fr hF).push _) (news_rest.push (hS.Fr hF) _) q
theorem listAt_inv(e:S.listAt x=some xs):∃t n,x=.loc t n/\S.H t=some (n,.list xs):=by
 cases x with
 |loc t n=>
  refine⟨t,n,rfl,?_⟩;delta AS.listAt at e;dsimp only at e;cases h:S.H t with|none=>rw[h]at e;exact ns e|some p=>
   rw[h]at e;obtain⟨m,o⟩:=p;cases o with
   |list ys=>
    by_cases c:m=n;.exact c▸zG (fun l=>some (m,HObj.list l)) (zS ((zU c).symm.trans e))
    .exact ns ((zN c).symm.trans e)|_=>exact ns e
 |_=>exact ns e
theorem listAt_of(hS:SR B s S I)(hv:VR s.heap I S.n v x)(e:S.listAt x=some xs):∃t n,x=.loc t n/\S.H t=some (n,.list xs)/\∃a items ep,v=.ref a/\I t n=⟨a,a⟩/\s.heap.get? a=some {cls:=.type "list",data:=.seq items ep}/\VRs s.heap I S.n items.toList xs:=by
 refine xe2a (listAt_inv e) fun t m e_2 q=>?_;clear e;subst e_2;obtain⟨rfl,l⟩:=hv.loc_inv;refine xae2a (hS.obj _ _ _ q) fun h1 items ep h2 h3=>?_;exact⟨t,m,rfl,q,(I t m).id,items,ep,rfl,zG (Place2.mk (I t m).id) h1.symm,h1▸h2,h3⟩
theorem isList_of(e:h.get? a=some {cls:=.type "list",data:=.seq items ep}):h.IsList a items:=⟨_,e,rfl,ep,rfl⟩
theorem isTup_of(e:h.get? a=some {cls:=.type "tuple",data:=.seq vs.toArray}):IsTup h a vs.toArray:=⟨_,e,rfl,_,rfl⟩
theorem bitNot_nat(p:Nat):Builtin.bitNot (p:Int)=Int.negSucc p:=by unfold Builtin.bitNot;lia
theorem bitAnd_nat(p q:Nat):Builtin.bitAnd (p:Int) (q:Int)=((p&&&q:Nat):Int):=by
 unfold Builtin.bitAnd;simp
theorem bitOr_nat(p q:Nat):Builtin.bitOr (p:Int) (q:Int)=((p|||q:Nat):Int):=by
 unfold Builtin.bitOr;rw[bitNot_nat,bitNot_nat];have e1:decide ((0:Int)<=Int.negSucc p)=false:=by simp
 have e2:decide ((0:Int)<=Int.negSucc q)=false:=by simp
 have f:∀n:Nat,(Builtin.bitNot (Int.negSucc n))=(n:Int):=fun n=>by unfold Builtin.bitNot;lia
 unfold Builtin.bitAnd;rw[e1,e2];simp only[f,yY];rw[bitNot_nat,f]
theorem EvS.lst(hS:SR B s S I)(hL:LR B nc env s.heap I S μ)(hv:VR s.heap I S.n v x)(hw:VR s.heap I S.n w y)(p:lstOp op x y S Q):EvS B A nc env (binaryOp op.op v w) μ s S I Q:=by
 refine xa p fun e_0 p'=>?_;clear p;subst e_0;refine xe2a3 p' fun xs ys h1 h2 hl q'=>?_;refine xe q' fun t q=>?_;clear p' q';refine xe2a2e3a3 (listAt_of hS hv h1) fun t1 n1 e_2 k1 a1 i1 e1 e_7 w1 g1 r1=>?_;subst e_2;subst e_7;refine xe2a2e3a3 (listAt_of hS hw h2) fun t2 n2 e_2 k2 a2 i2 e2 e_7 w2 g2 r2=>?_;subst e_2;subst e_7;obtain⟨m,cm,hF,hM⟩:=id hL;have l1:=r1.length;have l2:=r2.length;rw[yF]at l1 l2;exact add_arrays (hS.Fr hF) (news_rest (ex:=[])) (isList_of g1) (isList_of g2) (fun h' F' N'=>EvQ.list (k:=s.toks) hS hF hM (size_none _) (by simpa using r1.append r2) F' N' q) (by rw[yW];exact lD 0x72630102620000683e3320430200603030303030312041000 tT hl l1 l2)
theorem EvS.tups{a b:List Val}(hS:SR B s S I)(hL:LR B nc env s.heap I S μ)(hv:VR s.heap I S.n v (.tup a))(hw:VR s.heap I S.n w (.tup b))(hl:a.length+b.length<=1000)(q:Q (.tup (a++b)) S):EvS B A nc env (binaryOp BOp.add.op v w) μ s S I Q:=by
 refine xe2a2 hv.tup_inv fun _ _ e_2 e1 r1=>?_;subst e_2;refine xe2a2 hw.tup_inv fun _ _ e_2 e2 r2=>?_;subst e_2;obtain⟨m,cm,hF,hM⟩:=id hL;have l1:=r1.length;have l2:=r2.length;refine add_tuples (hS.Fr hF) (news_rest (ex:=[])) (isTup_of e1) (isTup_of e2) (fun z=>?_) (fun _ z=>?_) (fun _ _ h' F' N'=>?_) (by rw[yW];exact lD 0x72630102620000683e3320430200603030303030312041000 tT hl l1 l2);.subst z;cases r1;exact EvQ.same hS hL (.tup e2 r2) (by simpa using q)
 .subst z;cases r2;exact EvQ.same hS hL (.tup e1 r1) (by simpa using q)
 .exact EvQ.tuple (k:=s.toks) hS hF hM (r1.append r2) F' N' q
theorem EvS.bin(hS:SR B s S I)(hL:LR B nc env s.heap I S μ)(hv:VR s.heap I S.n v x)(hw:VR s.heap I S.n w y)(p:binOp op x y S Q):EvS B A nc env (binaryOp op.op v w) μ s S I Q:=by
 cases x with
 |int a=>cases y with
  |int b=>
   refine xe hv.int_inv fun _ e=>xe hw.int_inv fun _ e'=>?_;clear hv hw;subst e e';cases op with
   |add=>exact add_int (EvQ.pure _ hS hL (.int _ _) p)|sub=>exact sub_int (EvQ.pure _ hS hL (.int _ _) p)|mul=>exact mul_int (EvQ.pure _ hS hL (.int _ _) p.2) p.1|fdiv=>exact floordiv_int p.1 (EvQ.pure _ hS hL (.int _ _) p.2.2) (.inl p.2.1)|mod=>exact mod_int' p.1 (EvQ.pure _ hS hL (.int _ _) p.2)|pow=>exact pow_int p.1 p.2.1 (EvQ.pure _ hS hL (.int _ _) p.2.2)|bor=>exact xe2a2 p fun m n e e' q=>e▸e'▸or_int (EvQ.pure _ hS hL (by rw[bitOr_nat];exact .int _ _) q)|band=>exact xe2a2 p fun m n e e' q=>e▸e'▸and_int (EvQ.pure _ hS hL (by rw[bitAnd_nat];exact .int _ _) q)
  |_=>exact EvS.lst hS hL hv hw p
 |tup a=>cases y with
  |tup b=>exact xa2 p fun e hl q=>e▸EvS.tups hS hL hv hw hl q|_=>exact EvS.lst hS hL hv hw p
 |_=>exact EvS.lst hS hL hv hw p
variable{op:COp}
theorem reads_mut:(∀{v:Value}{x:Val},VR h I n v x->∀p,x.py=some p->∃as,Reads h v p as)/\∀{v:List Value}{x:List Val},VRs h I n v x->∀p,pys x=some p->∃as,ReadsAll h v p as:=by
 have tp:∀{a:Addr}{items:List Value}{vs:List Val}(g:h.get? a=some {cls:=.type "tuple",data:=.seq items.toArray})(r:VRs h I n items vs),(∀p,pys vs=some p->∃as,ReadsAll h items p as)->∀p,(Val.tup vs).py=some p->∃as,Reads h (.ref a) p as:=fun{a items vs}g r ih p e=>by
  refine xea (yX.mp (show(pys vs).map PyData.tuple=some p from e)) fun ds e1 e_2=>?_;clear e;subst e_2;obtain⟨as,q⟩:=ih _ e1;exact⟨_,.tuple g rfl rfl (by simpa using q)⟩
 have cn:∀{v:Value}{x:Val}{vs:List Value}{xs:List Val}(a:VR h I n v x)(r:VRs h I n vs xs),(∀p,x.py=some p->∃as,Reads h v p as)->(∀p,pys xs=some p->∃as,ReadsAll h vs p as)->∀p,pys (x::xs)=some p->∃as,ReadsAll h (v::vs) p as:=fun{v x vs xs}a r i1 i2 p e=>by
  have e:(match x.py,pys xs with|some a,some b=>some (a::b)|_,_=>none)=some p:=e;cases h1:x.py with|none=>rw[h1]at e;cases e|some d=>
   cases h2:pys xs with|none=>rw[h1,h2]at e;cases e|some ds=>
    rw[h1,h2]at e;cases e;obtain⟨as,p⟩:=i1 _ h1;obtain⟨bs,q⟩:=i2 _ h2;exact⟨_,.cons p q⟩
 exact⟨fun r=>VR.rec (motive_1:=fun v x _=>∀p,x.py=some p->∃as,Reads h v p as) (motive_2:=fun v x _=>∀p,pys x=some p->∃as,ReadsAll h v p as) (fun _ e=>zS e▸⟨_,.none⟩) (fun b _ e=>zS e▸⟨_,.bool b⟩) (fun i t _ e=>zS e▸⟨_,.int i t⟩) (fun s t _ e=>zS e▸⟨_,.str s t⟩) tp (fun _ _ e=>nomatch e) (fun _ _ e=>nomatch e) (fun _ e=>zS e▸⟨_,.nil⟩) cn r,fun r=>VRs.rec (motive_1:=fun v x _=>∀p,x.py=some p->∃as,Reads h v p as) (motive_2:=fun v x _=>∀p,pys x=some p->∃as,ReadsAll h v p as) (fun _ e=>zS e▸⟨_,.none⟩) (fun b _ e=>zS e▸⟨_,.bool b⟩) (fun i t _ e=>zS e▸⟨_,.int i t⟩) (fun s t _ e=>zS e▸⟨_,.str s t⟩) tp (fun _ _ e=>nomatch e) (fun _ _ e=>nomatch e) (fun _ e=>zS e▸⟨_,.nil⟩) cn r⟩
variable{d:PyData}
theorem reads_of{p:PyData}(r:VR h I n v x)(e:x.py=some p):∃as,Reads h v p as:=reads_mut.1 r p e
theorem readsAll_of{v:List Value}{x:List Val}{p:List PyData}(r:VRs h I n v x)(e:pys x=some p):∃as,ReadsAll h v p as:=reads_mut.2 r p e
theorem reads_list{ds:List PyData}(hS:SR B s S I)(hv:VR s.heap I S.n v x)(e:S.listAt x=some xs)(q:pys xs=some ds):∃as,Reads s.heap v (.list ds) as:=by
 refine xe2a2e3a3 (listAt_of hS hv e) fun t1 n1 e_2 k1 a1 i1 e1 e_7 w1 g1 r1=>?_;subst e_2;subst e_7;obtain⟨as,p⟩:=readsAll_of r1 q;exact⟨_,.list g1 rfl rfl p⟩
set_option tactic.hygienic true in theorem reads_data(hS:SR B s S I)(hv:VR s.heap I S.n v x)(e:S.data x=some d):∃as,Reads s.heap v d as:=by
  unfold AS.data at e;split at e;.rename_i d' h;cases e;exact reads_of hv h
  . split at e
    .rename_i xs h;rw[yX]at e;obtain⟨ds,e1,rfl⟩:=e;exact reads_list hS hv h e1
    .cases e
set_option tactic.hygienic true in theorem flat_of(hS:SR B s S I)(hv:VR s.heap I S.n v x)(e:S.flat x=some d):(∃as,Reads s.heap v d as)/\SeqAt.shaped d=true:=by
  unfold AS.flat at e;split at e
  . rename_i d' h;split at e;.rename_i z;cases e;exact⟨reads_data hS hv h,z⟩
    .cases e
  .cases e
theorem isNone_of(hv:VR s.heap I S.n v x)(e:isNone x=some b):plainIs v .none=true/\(v==.none)=b:=by
 cases hv with|none=>exact⟨rfl,zS e⟩|raw _=>exact ns e|_=>exact⟨rfl,zS e⟩
theorem room_in{xs:List PyData}(C:FC B A env k)(h:SeqAt.shaped d=true):A.units+1+Min.min (PyData.depthAll xs) d.depth<cLine:=by
 have h1:=SeqAt.depth_of_shaped h;have h2:Min.min (PyData.depthAll xs) d.depth<=d.depth:=Nat.min_le_right _ _;have h3:=C.units;unfold cLine;exact lD 0x706832333220423320414436230000620100603422016c3a363220410041200 tT h1 h2 h3
variable{d:Nat}
theorem intKind_is(i:Int)(t:Tok):(intKind B.prog B.w).is i (.int i t)=true:=by simp[intKind,Value.isInt]
theorem PR.keys{a:List (κ×Value)}{b:List (κ×Val)}(r:PR h I n a b):a.map (·.1)=b.map (·.1):=PR.ind (M:=fun a b=>a.map Prod.fst=b.map Prod.fst) rfl (fun k _ _ _ _ _ e=>zG (k::.) e) r
theorem valueAt_isSome[DecidableEq κ](k:κ):∀l:List (κ×Value),(valueAt l k).isSome=(l.map (·.1)).contains k:=by
 intro v;induction v with
 |nil=>
  exact rfl|cons b0 r ih=>
  obtain⟨a,v⟩:=b0;have ih:=ih;unfold valueAt at ih⊢;rw[List.find?_cons,List.map_cons,List.contains_cons];by_cases h:a=k;.clear ih;subst h;simp
  .have :(k==a)=false:=zQ.mpr (Ne.symm h);simp only[h,decide_false,this,Bool.false_or];exact ih
theorem notSys(h:B.hp.get? a=none):(a==sysModules)=false:=by
 refine zQ.mpr fun q=>?_;obtain⟨o,ho⟩:=B.sysm;rw[q,ho]at h;cases h
theorem xor_t(b:Bool):(b^^true)=!b:=by cases b<;>rfl
theorem xor_f(b:Bool):(b^^false)=b:=by cases b<;>rfl
theorem qf(q:Q (.bool (b^^false)) S):Q (.bool b) S:=xor_f b▸q
theorem qt(q:Q (.bool (b^^true)) S):Q (.bool !b) S:=xor_t b▸q
theorem EvS.eq(C:FC B A env k)(hS:SR B s S I)(hL:LR B nc env s.heap I S μ)(hv:VR s.heap I S.n v x)(hw:VR s.heap I S.n w y)(p:eqOp neg x y S Q):EvS B A nc env (compareOp (if neg then .NotEq else .Eq) v w) μ s S I Q:=by
  have hu:A.units+64<cLine:=by have :=C.units;unfold cLine;exact lB 0x7068323332204233204144362100016c3a3632204034200 tT this
  rcases p with⟨rfl,rfl,p⟩|⟨rfl,rfl,p⟩|⟨f1,f2,hm,q⟩
  . obtain⟨_,rfl⟩:=hv.int_inv;obtain⟨_,rfl⟩:=hw.int_inv;cases neg;.exact P.eq_int (EvQ.same hS hL (.bool _) (qf p))
    .exact P.ne_int (EvQ.same hS hL (.bool _) (qt p))
  . obtain⟨_,rfl⟩:=hv.str_inv;obtain⟨_,rfl⟩:=hw.str_inv;cases neg;.exact PyProof.Rows.eq_str (EvQ.same hS hL (.bool _) (qf p))
    .exact PyProof.Rows.ne_str (EvQ.same hS hL (.bool _) (qt p))
  . obtain⟨⟨as,r1⟩,z1⟩:=flat_of hS hv f1;obtain⟨⟨bs,r2⟩,z2⟩:=flat_of hS hw f2;cases neg;.exact eq_dataH_same r1 r2 z1 z2 hu hm (EvQ.same hS hL (.bool _) (qf q))
    .exact ne_dataH_same r1 r2 z1 z2 hu hm (EvQ.same hS hL (.bool _) (qt q))
theorem EvS.is_(hS:SR B s S I)(hL:LR B nc env s.heap I S μ)(hv:VR s.heap I S.n v x)(hw:VR s.heap I S.n w y)(p:isOp neg x y S Q):EvS B A nc env (compareOp (if neg then .IsNot else .Is) v w) μ s S I Q:=by
 obtain⟨rfl,b,e,q⟩:=p;cases hw.none_inv;obtain⟨a,b⟩:=isNone_of hv e;cases neg;.exact wpAny_is_plain a (by rw[b];exact EvQ.same hS hL (.bool _) (qf q))
 .exact wpAny_isNot_plain a (by rw[b];exact EvQ.same hS hL (.bool _) (qt q))
theorem EvS.inSeq(C:FC B A env k)(hS:SR B s S I)(hL:LR B nc env s.heap I S μ)(hv:VR s.heap I S.n v x)(p:inSeq neg x xs S Q)(hr:∀ds,pys xs=some ds->(∃as,Reads s.heap w (.list ds) as)\/∃as,Reads s.heap w (.tuple ds) as):EvS B A nc env (compareOp (if neg then .NotIn else .In) v w) μ s S I Q:=by
 obtain⟨d,ds,h1,h2,h3,hc,q⟩:=p;obtain⟨bs,rx⟩:=reads_of hv h1;have hd:=SeqAt.canLay_of_shaped h3;rcases hr ds h2 with⟨as,rc⟩|⟨as,rc⟩<;>cases neg;.rw[xor_f]at q;exact SeqAt.in_list_reads rc rx hc hd (room_in C h3) (EvQ.same hS hL (.bool _) q)
 .rw[xor_t]at q;exact SeqAt.notIn_list_reads rc rx hc hd (room_in C h3) (EvQ.same hS hL (.bool _) q)
 .rw[xor_f]at q;exact SeqAt.in_tuple_reads rc rx hc hd (room_in C h3) (EvQ.same hS hL (.bool _) q)
 .rw[xor_t]at q;exact SeqAt.notIn_tuple_reads rc rx hc hd (room_in C h3) (EvQ.same hS hL (.bool _) q)
set_option tactic.hygienic true in theorem EvS.in_(C:FC B A env k)(hS:SR B s S I)(hL:LR B nc env s.heap I S μ)(hv:VR s.heap I S.n v x)(hw:VR s.heap I S.n w y)(p:inOp neg x y S Q):EvS B A nc env (compareOp (if neg then .NotIn else .In) v w) μ s S I Q:=by
  rcases p with⟨rfl,rfl,e,q⟩|⟨rfl,e,q⟩|⟨rfl,q⟩
  . rename_i t m kvs k;obtain⟨rfl,_⟩:=hw.loc_inv;refine xaea (hS.obj _ _ _ e) fun h1 ps hd hp=>?_;obtain⟨tk,rfl⟩:=hv.int_inv;have hk:=valueAt_isSome k ps;rw[hp.keys]at hk;have hd':s.heap.MapOf (intKind B.prog B.w) (I t m).id (valueAt ps):=h1▸hd.mapOf;have hn:=notSys (h1▸hS.new _ _ _ e);rw[<-hk]at q;cases neg;.exact wpAny_in_of (intKind_is k tk) hn hd' (EvQ.pure _ hS hL (.bool _) (qf q))
    .exact wpAny_notIn_of (intKind_is k tk) hn hd' (EvQ.pure _ hS hL (.bool _) (qt q))
  .exact EvS.inSeq C hS hL hv q fun ds h=>.inl (reads_list hS hw (by simp[AS.listAt,e]) h)
  .refine xe2a2 hw.tup_inv fun _ _ e_2 g r=>?_;clear hw;subst e_2;exact EvS.inSeq C hS hL hv q fun ds h=>.inr (let⟨as,ra⟩:=readsAll_of r h;⟨_,.tuple g rfl rfl (by simpa using ra)⟩)
theorem EvS.cmpInt{a b:Int}{t u:Tok}{r:Bool}(hS:SR B s S I)(hL:LR B nc env s.heap I S μ)(e:cmpInt op a b=some r)(q:Q (.bool r) S):EvS B A nc env (compareOp op.op (.int a t) (.int b u)) μ s S I Q:=by
 cases op<;>cases e;.exact P.eq_int (EvQ.same hS hL (.bool _) q)
 .exact P.ne_int (EvQ.same hS hL (.bool _) q)
 .exact P.lt_int (EvQ.same hS hL (.bool _) q)
 .exact P.le_int (EvQ.same hS hL (.bool _) q)
 .exact P.gt_int (EvQ.same hS hL (.bool _) q)
 .exact P.ge_int (EvQ.same hS hL (.bool _) q)
theorem EvS.ord(hS:SR B s S I)(hL:LR B nc env s.heap I S μ)(hv:VR s.heap I S.n v x)(hw:VR s.heap I S.n w y)(p:ordOp op x y S Q):EvS B A nc env (compareOp op.op v w) μ s S I Q:=by
 obtain⟨rfl,rfl,e,q⟩:=p;obtain⟨_,rfl⟩:=hv.int_inv;obtain⟨_,rfl⟩:=hw.int_inv;exact EvS.cmpInt hS hL e q
theorem EvS.cmp(C:FC B A env k)(hS:SR B s S I)(hL:LR B nc env s.heap I S μ)(hv:VR s.heap I S.n v x)(hw:VR s.heap I S.n w y)(p:cmpOp op x y S Q):EvS B A nc env (compareOp op.op v w) μ s S I Q:=by
 cases op with|eq=>exact EvS.eq (neg:=false) C hS hL hv hw p|ne=>exact EvS.eq (neg:=true) C hS hL hv hw p|is_=>exact EvS.is_ (neg:=false) hS hL hv hw p|isNot=>exact EvS.is_ (neg:=true) hS hL hv hw p|in_=>exact EvS.in_ (neg:=false) C hS hL hv hw p|notIn=>exact EvS.in_ (neg:=true) C hS hL hv hw p|lt=>exact EvS.ord hS hL hv hw p|le=>exact EvS.ord hS hL hv hw p|gt=>exact EvS.ord hS hL hv hw p|ge=>exact EvS.ord hS hL hv hw p
inductive UnQ(B:Base)(nc:NC)(env:Env)(μ:Mu)(s:Shared)(S:AS)(I:Interp)(K:AS->Prop)(s':Shared):Prop|mk(S':AS)(I':Interp)(q:K S')(hS:SR B s' S' I')(hE:Ext (We env) s S I s' S' I')(hL:LR B nc env s'.heap I' S' μ)
theorem inst_at{m:Nat}(hS:SR B s S I)(hv:VR s.heap I S.n v (.loc t n))(e:S.H t=some (m,.inst c at_))(hm:m=n):∃es ep,v=.ref (I t n).id/\InstAt s.heap (I t n).id (instObj (B.ca c) (I t n).cell) (B.ca c) (some (dictOf es ep))/\s.heap.get? (I t n).cell=some (dictOf es ep)/\KR s.heap es at_ I S.n:=by
 subst hm;cases hv with|loc l=>
 refine xae2a (hS.obj _ _ _ e) fun h1 es ep h2 h3=>?_;exact⟨es,ep,rfl,⟨h1,rfl,rfl,h2⟩,h2,h3⟩
theorem EvS.attr{a:At}(hS:SR B s S I)(hL:LR B nc env s.heap I S μ)(hv:VR s.heap I S.n v x)(p:attrGet x a S Q):EvS B A nc env (getAttr v a.nm true) μ s S I Q:=by
 obtain⟨rfl,e,hoa,hy,p⟩:=p;refine xe2a3 (inst_at hS hv e rfl) fun es ep e_2 J hc hk=>?_;clear hv;subst e_2;refine xea (hk.get hy) fun u hg hu=>?_;obtain⟨mm,cm,hF,hM⟩:=id hL;exact get_own (hS.Fr hF) B.inK J (B.plain _ a) (B.hasD _) (B.noAttr _ a hoa) rfl hg hu.handed (EvQ.pure _ hS hL hu p)
theorem UnQ.put(hS:SR B s S I)(hF:FR B env s.heap I S m cm)(hM:MR nc env s.heap I S.n μ m cm)(e:S.H t=some (n,o))(hs:∀b,b≠(I t n).cell->h'.get? b=s.heap.get? b)(ho:(h'.get? (I t n).cell).isSome=true)(hor:Up s.heap I S.n h' I S.n->OR B h' I S.n (I t n) o')(q:K (S.put t n o')):UnQ B nc env μ s S I K {s with heap:=h',toks:=k}:=by
 have w:=hF.wokE;have old:∀a,h'.get? a=none->s.heap.get? a=none:=fun a z=>by
  by_cases q:a=(I t n).cell;.rw[q]at z;rw[z]at ho;cases ho
  .rw[<-hs a q];exact z
 obtain⟨a,b⟩:=hS.put (s':={s with heap:=h',toks:=k}) w e (fun b ob z hb _=>(hs b hb).trans z) old hor rfl rfl;have ns:h'.Ns env.locals m:=by
  refine xe3a hF.ns fun oL es ep hL r=>?_;exact⟨oL,es,ep,(hs _ (fun z=>hF.offL _ _ _ e z.symm)).trans hL,r⟩
 exact⟨_,_,q,a,b,m,cm,hF.extE hS b ns,hM.up b.up⟩
variable{o:Obj}
set_option tactic.hygienic true in theorem setAttr_step{a:At}(hS:SR B s S I)(hL:LR B nc env s.heap I S μ)(hv:VR s.heap I S.n v x)(hw:VR s.heap I S.n w y)(p:attrSet x a y S K):wpAny (model B.prog B.w) A (setAttr v a.nm w) (fun _=>UnQ B nc env μ s S I K) (fun _ _=>False) s:=by
  obtain⟨rfl,e,p⟩:=p;rename_i t n c at_;refine xe2a3 (inst_at hS hv e rfl) fun es ep e_2 J hc hk=>?_;clear hv;subst e_2;obtain⟨mm,cm,hF,hM⟩:=id hL;have hl:(getL a.nm es).isSome=true:=by
    cases q:at_ a with|some y=>refine xea (hk.get q) fun u hg _=>?_;rw[hg];rfl|none=>rw[hk.free (s:=a.nm) fun z hz w=>hz (At.nm_inj w▸q)];rfl
  have N:News B.hp env.locals s.heap (((I t n).cell,dictOf es ep)::rest s.heap B.hp env.locals [(I t n).cell]):=fun q hq=>by
    rcases zL.mp hq with rfl|hq;.exact⟨hc,hF.offL _ _ _ e,hS.new _ _ _ e⟩
    .exact news_rest q hq
  have kr:=hk.put a hw (PyData.keyHash B.w.params a.nm) (s.toks+1);refine set_dict (hS.Fr hF) B.inK N J rfl (B.setA c) (B.over c) (B.takes c a) (B.hasD c) hl rfl (.head fun p hp=>?_) (zE kr.len (by exact lin [] [] 0x70683e3322322 tT)) fun h' F' N'=>?_;.have :=mem_rest.mp (show(p.1,p.2)∈_ from hp);simpa using this.2.2.1
  . have kept:∀b o,s.heap.get? b=some o->b≠env.locals->b≠(I t n).cell->h'.get? b=some o:=fun b o z h1 h2=>rest_kept F' hS.keep (fun p hp=>(N' p (zI _ hp)).1) b o z h1 (by simpa using h2);have hc':=(N' _ (zF ..)).1;have w:=hF.wokE;have old:∀a,h'.get? a=none->s.heap.get? a=none:=fun b z=>by
      by_cases q:b=(I t n).cell;.rw[q,hc']at z;cases z
      . by_cases q':b=env.locals;.refine xe3a F'.ns fun oL _ _ hL _=>?_;rw[q',hL]at z;cases z
        .cases r:s.heap.get? b with|none=>rfl|some o=>rw[kept b o r q' q]at z;cases z
    have hor:Up s.heap I S.n h' I S.n->OR B h' I S.n (I t n) (.inst c fun b=>if b=a then some y else at_ b):=fun u=>by
      refine⟨kept _ _ J.at_ (fun z=>?_) fun z=>?_,_,_,hc',kr.up u⟩
      .refine xe3a2 hF.ns fun oL es' ep' hL hd _=>?_;have :=J.at_;rw[z,hL]at this;cases this;cases hd
      .have :=J.at_;rw[z,hc]at this;cases this
    obtain⟨S1,E1⟩:=hS.put (s':={s with heap:=h',toks:=s.toks+2}) w e (fun b ob z h1 h2=>kept b ob z h2 h1) old hor rfl rfl;exact⟨_,_,p,S1,E1,mm,cm,hF.extE hS E1 F'.ns,hM.up E1.up⟩
theorem idxOf_seqIndex(h:idxOf i n=some j):seqIndex? i n=some j:=by
  unfold idxOf at h;unfold seqIndex?;by_cases hi:0<=i
  . rw[zU hi]at h;split at h
    . cases h;have h1:¬i<0:=by exact fun e=>lZ 0x74602013601028080650202 tT hi e
      simp only[h1,if_false];rw[zU (by simp only[yN,decide_eq_true_eq];omega)]
    .cases h
  . rw[zN hi]at h;split at h
    . cases h;have h1:i<0:=by exact lZ 0x7460201460201 tT (Int.lt_of_not_ge hi)
      simp only[h1,if_true];rw[zU (by simp only[yN,decide_eq_true_eq];omega)]
    .cases h
theorem isStrOf_self{w:World}(x:Str)(t:Tok):(PySem.strKind prog w).is x (.str x t)=true:=by
 show Value.isStrOf x (.str x t)=true;simp[Value.isStrOf]
theorem valueAt_cons[DecidableEq κ](k k':κ)(v:Value)(r:List (κ×Value)):valueAt ((k',v)::r) k=if k'=k then some v else valueAt r k:=by
 unfold valueAt;rw[List.find?_cons];by_cases c:k'=k;.rw[zU c,decide_eq_true c];rfl
 .rw[zN c,yR c]
theorem PR.lookup'[BEq κ][LawfulBEq κ][DecidableEq κ]{k:κ}{a:List (κ×Value)}{b:List (κ×Val)}(r:PR h I n a b):(∀x,b.lookup k=some x->∃v,valueAt a k=some v/\VR h I n v x)/\(b.lookup k=none->valueAt a k=none):=PR.ind (M:=fun a b=>(∀x,b.lookup k=some x->∃v,valueAt a k=some v/\VR h I n v x)/\(b.lookup k=none->valueAt a k=none)) ⟨fun _ e=>ns e,fun _=>rfl⟩ (fun k' v x a b hv ih=>by
 rw[yK,valueAt_cons];by_cases c:k'=k
 .rw[zU c,show(k==k')=true from yG.mpr c.symm];exact⟨fun _ e=>⟨v,rfl,zS e▸hv⟩,fun e=>ns e.symm⟩
 .rw[zN c,show(k==k')=false from zQ.mpr fun e=>c e.symm];exact ih) r
theorem PR.lookup[BEq κ][LawfulBEq κ][DecidableEq κ]{k:κ}{a:List (κ×Value)}{b:List (κ×Val)}(r:PR h I n a b)(e:b.lookup k=some x):∃v,valueAt a k=some v/\VR h I n v x:=r.lookup'.1 x e
set_option tactic.hygienic true in theorem EvS.item(hS:SR B s S I)(hL:LR B nc env s.heap I S μ)(hv:VR s.heap I S.n v x)(hw:VR s.heap I S.n w y)(p:itemGet x y S Q):EvS B A nc env (getItem v w) μ s S I Q:=by
  rcases p with⟨rfl,rfl,hi,hj,hz,p⟩|⟨e,rfl,hi,hl,hj,hz,p⟩|⟨rfl,rfl,e,hz,q⟩
  .refine xe2a2 hv.tup_inv fun a items e_2 g r=>?_;clear hv;subst e_2;obtain⟨tk,rfl⟩:=hw.int_inv;refine xea (r.get hz) fun u hu hr=>?_;have :=r.length;refine PyProof.Rows.getItem_tuple (isTup_of g) (by omega) (by omega) (x:=u) ?_ (by simpa using hu) (EvQ.same hS hL hr p);rw[List.size_toArray,this];exact idxOf_seqIndex hj
  . rename_i i j z;refine xe2a2e3a3 (listAt_of hS hv e) fun t1 n1 h1 k1 a1 i1 e1 e_7 w1 g1 r1=>?_;clear hv;subst e_7;obtain⟨tk,rfl⟩:=hw.int_inv;refine xea (r1.get hz) fun u hu hr=>?_;have l1:=r1.length;rw[yF]at l1;have q:=EvQ.same hS hL hr p;unfold idxOf at hj;by_cases hp:0<=i
    . rw[zU hp]at hj;split at hj
      .clear hz;cases hj;exact wpAny_getItem_list (isList_of g1) hp (by omega) (by simpa using hu) q
      .cases hj
    . rw[zN hp]at hj;split at hj;.clear hz;cases hj;exact wpAny_getItem_list_neg (isList_of g1) (by exact lZ 0x7460201460201 tT (Int.lt_of_not_ge hp)) (by omega) (by omega) (x:=u) (by rw[l1];simpa using hu) q
      .cases hj
  .rename_i t m kvs s' z;obtain⟨rfl,_⟩:=hv.loc_inv;refine xaea (hS.obj _ _ _ e) fun h1 ps hd hp=>?_;obtain⟨tk,rfl⟩:=hw.str_inv;refine xea (hp.lookup hz) fun u hu hr=>?_;exact wpAny_getItem_of (isStrOf_self _ _) (h1▸hd.mapOf:s.heap.MapOf (strKind B.prog B.w) (I t m).id (valueAt ps)) hu (EvQ.pure _ hS hL hr q)
theorem PR.any[DecidableEq κ](k:κ){a:List (κ×Value)}{b:List (κ×Val)}(r:PR h I n a b):a.any (fun p=>decide (p.1=k))=b.any (fun p=>decide (p.1=k)):=PR.ind (M:=fun a b=>a.any (fun p=>decide (p.1=k))=b.any (fun p=>decide (p.1=k))) rfl (fun k' _ _ _ _ _ e=>zG (decide (k'=k)||.) e) r
theorem PR.map[DecidableEq κ](k:κ)(hv:VR h I n v x){a:List (κ×Value)}{b:List (κ×Val)}(r:PR h I n a b):PR h I n (a.map fun p=>if p.1=k then(p.1,v)else p) (b.map fun p=>if p.1=k then(p.1,x)else p):=PR.ind (M:=fun a b=>PR h I n (a.map fun p=>if p.1=k then(p.1,v)else p) (b.map fun p=>if p.1=k then(p.1,x)else p)) trivial (fun k' w y a b hw ih=>by
 rw[List.map_cons,List.map_cons];by_cases z:k'=k;.rw[zU z,zU z];exact⟨rfl,hv,ih⟩
 .rw[zN z,zN z];exact⟨rfl,hw,ih⟩) r
theorem PR.snoc{k:κ}(hv:VR h I n v x){a:List (κ×Value)}{b:List (κ×Val)}(r:PR h I n a b):PR h I n (a++[(k,v)]) (b++[(k,x)]):=PR.ind (M:=fun a b=>PR h I n (a++[(k,v)]) (b++[(k,x)])) (show PR h I n [(k,v)] [(k,x)]from .cons hv trivial) (fun _ _ _ a b hw ih=>.cons (a:=a++_) (b:=b++_) hw ih) r
theorem PR.length{a:List (κ×Value)}{b:List (κ×Val)}(r:PR h I n a b):a.length=b.length:=by
 have :=zG List.length r.keys;rw[zA,zA]at this;exact this
theorem PR.storeI(k:Int)(hv:VR h I n v x){a:List (Int×Value)}{b:List (Int×Val)}(r:PR h I n a b):PR h I n (stored a k v) (putI b k x):=by
 unfold stored putI;rw[r.any k];split;.exact r.map k hv
 .exact r.snoc hv
theorem PR.storeS(k:Str)(hv:VR h I n v x){a:List (Str×Value)}{b:List (Str×Val)}(r:PR h I n a b):PR h I n (stored a k v) (putS b k x):=by
 unfold stored putS;rw[r.any k];split;.exact r.map k hv
 .exact r.snoc hv
theorem atKey_isSome(k:List Int):∀xs:List (List Int×Addr×Value),(atKey xs k).isSome=(xs.map fun x=>(x.1,x.2.2)).any (fun p=>decide (p.1=k)):=by intro v;induction v with
 |nil=>exact rfl|cons x r ih=>
  have ih:=ih;unfold atKey at ih⊢;rw[List.find?_cons,List.map_cons,List.any_cons];by_cases h:x.1=k;.simp[h]
  .simp only[h,decide_false,Bool.false_or];exact ih
theorem PR.storeT(k:List Int){ad:Addr}(hv:VR h I n v x){a:List (List Int×Addr×Value)}{b:List (List Int×Val)}(r:PR h I n (a.map fun x=>(x.1,x.2.2)) b):PR h I n ((storedH a k ad v).map fun x=>(x.1,x.2.2)) (putT b k x):=by
 unfold storedH putT;rw[atKey_isSome,r.any k];split
 .have :=r.map k hv;rw[List.map_map]at this⊢;refine Eq.mp (zG (fun l=>PR h I n l _) (List.map_congr_left fun z _=>?_)) this;simp only[Function.comp,putAt];split<;>rfl
 .rw[zV];exact r.snoc hv
theorem intsOf_cons{is:List Int}(e:intsOf (x::r)=some is):∃i is',x=.int i/\intsOf r=some is'/\is=i::is':=by
 cases x with|int i=>
  refine xea (yX.mp (show(intsOf r).map (i::.)=some is from e)) fun is' e q=>?_;exact⟨i,is',rfl,e,q.symm⟩|_=>cases e
theorem isKey_of{w:World}:∀{l:List Val}{items:List Value}{is:List Int},VRs h I n items l->intsOf l=some is->ItemsAre (intKind prog w) is items:=by
 intro l;induction l with|nil=>intro items is r e;cases r;cases e;exact .nil|cons x l ih=>
  intro items is r e;refine xe2a2 (intsOf_cons e) fun i is' e_2 e' e_4=>?_;subst e_2;subst e_4;refine xe2a2 r.cons_inv fun v us e_2 hv hr=>?_;clear r;subst e_2;obtain⟨t,rfl⟩:=hv.int_inv;exact .cons (beq_self_eq_true i) (ih hr e')
set_option tactic.hygienic true in theorem setItem_step(C:FC B A env d)(hS:SR B s S I)(hL:LR B nc env s.heap I S μ)(hv:VR s.heap I S.n v x)(hz:VR s.heap I S.n u z)(hw:VR s.heap I S.n w y)(p:itemSet x z y S K):wpAny (model B.prog B.w) A (setItem v u w) (fun _=>UnQ B nc env μ s S I K) (fun _ _=>False) s:=by
  obtain⟨mm,cm,hF,hM⟩:=id hL;rcases p with⟨rfl,rfl,e,hl,h0,h1,q⟩|⟨rfl,rfl,e,hl,q⟩|⟨rfl,rfl,e,hl,q⟩|⟨rfl,rfl,e,hl,hk,q⟩<;>obtain⟨rfl,_⟩:=hv.loc_inv
  .rename_i t m xs i _;obtain⟨tk,rfl⟩:=hz.int_inv;refine xae2a (hS.obj _ _ _ e) fun hi items ep h2 h3=>?_;have l1:=h3.length;rw[yF]at l1;have hg:s.heap.get? (I t m).id=some (listOf items ep):=hi▸h2;refine ki_setAt hg h0 (by omega) (by exact lX 0x77f7f25100046540210014654020001 tT h1 l1) ?_;have hg':=Heap.get?_update_self (Obj.mapSeq (·.setIfInBounds i.toNat w)) hg rfl;refine UnQ.put (o':=.list (xs.set i.toNat y)) (k:=s.toks) hS hF hM e (fun b hb=>Heap.get?_update_other _ _ (by rw[hi];exact Ne.symm hb)) (by rw[<-hi,hg'];rfl) (fun up=>?_) q;exact⟨hi,items.setIfInBounds i.toNat w,_,by rw[<-hi];exact hg',by rw[Array.toList_setIfInBounds];exact(h3.up up).set (hw.up up)⟩
  .rename_i t m kvs i _;obtain⟨tk,rfl⟩:=hz.int_inv;refine xaea (hS.obj _ _ _ e) fun hi ps hd hp=>?_;refine wpAny_setItem_pairs (knd:=intKind B.prog B.w) (k:=i) (intKind_is i tk) (hi▸hd) (fun h' h1 h2=>?_) (by rw[yW,hp.length];exact lA 0x70683e33200060303030303031200 tT hl);exact UnQ.put (o':=.dictI (putI kvs i y)) hS hF hM e (fun b hb=>h2.2 b (by rw[hi];exact hb)) (by refine xe3a h1 fun o _ _ ho _=>?_;rw[<-hi,ho];rfl) (fun up=>⟨hi,_,hi▸h1,(hp.up up).storeI i (hw.up up)⟩) q
  .rename_i t m kvs i _;obtain⟨tk,rfl⟩:=hz.str_inv;refine xaea (hS.obj _ _ _ e) fun hi ps hd hp=>?_;refine wpAny_setItem_pairs (knd:=strKind B.prog B.w) (k:=i) (isStrOf_self _ _) (hi▸hd) (fun h' h1 h2=>?_) (by rw[yW,hp.length];exact lA 0x70683e33200060303030303031200 tT hl);exact UnQ.put (o':=.dictS (putS kvs i y)) hS hF hM e (fun b hb=>h2.2 b (by rw[hi];exact hb)) (by refine xe3a h1 fun o _ _ ho _=>?_;rw[<-hi,ho];rfl) (fun up=>⟨hi,_,hi▸h1,(hp.up up).storeS i (hw.up up)⟩) q
  . rename_i t m kvs l is _;refine xe2a2 hz.tup_inv fun a items e_2 g r=>?_;clear hz;subst e_2;refine xaea2 (hS.obj _ _ _ e) fun hi ps hd hex hp=>?_;have hlen:=hp.length;rw[zA]at hlen;refine wpAny_setItem_heap (knd:=tupleKind (intKind B.prog B.w)) (k:=is) (show A.in1.units<cLine from ?_) ⟨_,_,_,g,rfl,rfl,?_⟩ (hi▸hd) (fun h' h1 h2=>?_) (by rw[yW];exact lB 0x72610000683e33210060303030303031200 tT hl hlen)
    .have :=C.units;show A.units+1<cLine;unfold cLine;exact lB 0x7068323332204233204144362100016c3a36322041200 tT this
    .simpa using isKey_of r hk
    . refine UnQ.put (o':=.dictT (putT kvs is y)) hS hF hM e (fun b hb=>h2.2 b (by rw[hi];exact hb)) (by refine xe3a h1 fun o _ _ ho _=>?_;rw[<-hi,ho];rfl) (fun up=>?_) q;refine⟨hi,_,hi▸h1,fun x hx=>?_,(hp.up up).storeT is (hw.up up)⟩;unfold storedH at hx;split at hx
      . refine xea (yE.mp hx) fun z hz e_2=>?_;subst e_2;obtain⟨its,g'⟩:=hex z hz;refine⟨its,?_⟩;have :(putAt is w z).2.1=z.2.1:=by unfold putAt;split<;>rfl
        rw[this];exact up.tup _ _ g' rfl ⟨_,_,rfl⟩
      . rcases yV.mp hx with hx|hx;.obtain⟨its,g'⟩:=hex x hx;exact⟨its,up.tup _ _ g' rfl ⟨_,_,rfl⟩⟩
        .rw[zD]at hx;subst hx;exact⟨_,up.tup _ _ g rfl ⟨_,_,rfl⟩⟩
variable{K:Mu->AS->Prop}
theorem grow(hS:SR B s S I)(hF:FR B env s.heap I S m cm)(hM:MR nc env s.heap I S.n μ m cm)(hk:∀b o,s.heap.get? b=some o->h'.get? b=some o)(k:Nat):SR B {s with heap:=h',toks:=k} S I/\Ext (We env) s S I {s with heap:=h',toks:=k} S I/\FR B env h' I S m cm/\MR nc env h' I S.n μ m cm:=by
 have old:∀a,h'.get? a=none->s.heap.get? a=none:=fun a e=>by
  cases q:s.heap.get? a with|none=>rfl|some o=>rw[hk a o q]at e;cases e
 have w:=hF.wokE;obtain⟨a,b⟩:=hS.kept (s':={s with heap:=h',toks:=k}) (W:=We env) (fun a o e hw=>hk a o e) w.base w.data w.live old rfl rfl;exact⟨a,b,hF.extE hS b (hF.ns.keeps hk),hM.up b.up⟩
theorem EvQ.listG{e:Nat}(hS:SR B s S I)(hL:LR B nc env s.heap I S μ)(hf:s.heap.get? a=none)(hx:VRs s.heap I S.n items.toList xs)(hk:∀b o,s.heap.get? b=some o->h'.get? b=some o)(ha:h'.get? a=some {cls:=.type "list",data:=.seq items e})(q:Q (.loc t S.n) (S.alloc t (.list xs))):EvQ B nc env μ s S I Q (.ref a) {s with heap:=h',toks:=k}:=by
 obtain⟨m,cm,hF,hM⟩:=hL;refine xa3 (grow hS hF hM hk k) fun S1 E1 F1 M1=>?_;have lt:=S1.lt;have off:∀t v o',S.H t=some (v,o')->(I t v).cell≠a:=fun t v o' e q=>by
  refine xea (hS.shape e) fun ob h _=>?_;rw[q,hf]at h;cases h
 have nb:B.hp.get? a=none:=by
  cases z:B.hp.get? a with|none=>rfl|some o=>have :=hS.keep _ _ z;rw[hf]at this;cases this
 have nl:a≠env.locals:=by
  clear ha off nb;rintro rfl;refine xe3a hF.ns fun o _ _ ho _=>?_;rw[hf]at ho;cases ho
 refine⟨_,_,_,q,S1.adopt (p:=⟨a,a⟩) off nb ?_,E1.adopt (p:=⟨a,a⟩) lt hf,⟨m,cm,F1.adopt lt nl,M1.up .set⟩,?_⟩;.exact⟨rfl,items,e,ha,(hx.up E1.up).up .set⟩
 .have :=VR.loc (h:=h') (I:=I.set t S.n ⟨a,a⟩) (n:=S.n+1) (t:=t) (v:=S.n) (xA _);rw[Interp.set_self]at this;exact this
theorem EvQ.turn{xs':List Val}{f:Array Value->Array Value}(hS:SR B s S I)(hL:LR B nc env s.heap I S μ)(e:S.H t=some (n,.list xs))(hi:(I t n).id=(I t n).cell)(hg:s.heap.get? (I t n).id=some (listOf items ep))(hf:VRs s.heap I S.n (f items).toList xs')(hr:VR s.heap I S.n w y)(q:Q y (S.put t n (.list xs'))):EvQ B nc env μ s S I Q w {s with heap:=s.heap.update (I t n).id (Obj.mapSeq f)}:=by
 obtain⟨mm,cm,hF,hM⟩:=id hL;have hg':=Heap.get?_update_self (Obj.mapSeq f) hg rfl;obtain⟨S',I',a,b,c,d⟩:=UnQ.put (h':=s.heap.update (I t n).id (Obj.mapSeq f)) (K:=fun S'=>S'=S.put t n (.list xs')) (o':=.list xs') (k:=s.toks) hS hF hM e (fun b hb=>Heap.get?_update_other _ _ (by rw[hi];exact Ne.symm hb)) (by rw[<-hi,hg'];rfl) (fun up=>⟨hi,f items,_,by rw[<-hi];exact hg',hf.up up⟩) rfl;exact⟨_,S',I',by rw[a];exact q,b,c,d,hr.up c.up⟩
variable{items:List Val}{turn:Val->Mu->AS->SQ->Prop}
theorem call_append(hS:SR B s S I)(hL:LR B nc env s.heap I S μ)(hv:VR s.heap I S.n v (.loc t n))(hw:VR s.heap I S.n w y)(e:S.H t=some (n,.list xs))(hl:xs.length<=1000)(q:Q .none (S.put t n (.list (xs++[y])))):EvS B A nc env (call (.builtin "list.append") [v,w]) μ s S I Q:=by
 obtain⟨mm,cm,hF,hM⟩:=id hL;obtain⟨rfl,l⟩:=VR.loc_inv hv;refine xae2a (hS.obj _ _ _ e) fun hi items ep h2 h3=>?_;have l1:=h3.length;simp only[yF]at l1;have hg:s.heap.get? (I t n).id=some (listOf items ep):=hi▸h2;have hsz:items.size<=sizeLine:=by rw[yW];exact lB 0x72610000683e33210060303030303031200 tT hl l1
 refine call_meets PySem.F.slot_list_append ⟨_,hg,rfl⟩ PySem.F.entry_list_append (PySem.F.args_list_append_2 _ _) (list_append _ items ep w hsz) ⟨hg,?_⟩;exact EvQ.turn hS hL e hi hg (by rw[Array.toList_push];exact h3.append (.cons hw .nil)) .none q
theorem call_extend{ys:List Val}(hS:SR B s S I)(hL:LR B nc env s.heap I S μ)(hv:VR s.heap I S.n v (.loc t n))(hw:VR s.heap I S.n w y)(e:S.H t=some (n,.list xs))(ey:S.listAt y=some ys)(hl:xs.length+ys.length<=1000)(q:Q .none (S.put t n (.list (xs++ys)))):EvS B A nc env (call (.builtin "list.extend") [v,w]) μ s S I Q:=by
 obtain⟨mm,cm,hF,hM⟩:=id hL;obtain⟨rfl,l⟩:=VR.loc_inv hv;refine xae2a (hS.obj _ _ _ e) fun hi items ep h2 h3=>?_;have l1:=h3.length;simp only[yF]at l1;refine xe2a2e3a3 (listAt_of hS hw ey) fun t2 n2 e_2 k2 a2 i2 e2 e_7 w2 g2 r2=>?_;subst e_2;subst e_7;have l2:=r2.length;simp only[yF]at l2;have hg:s.heap.get? (I t n).id=some (listOf items ep):=hi▸h2;have hsz:items.size<=sizeLine:=by rw[yW];exact lC 0x72610000683e332042010060303030303031200 tT hl l1
 have hsz2:items.size+i2.size<=sizeLine+1:=by rw[yW];exact lD 0x72630102620000683e33204302006041203030303030312041000 tT hl l1 l2
 have hd:¬(!items.isEmpty&&Builtin.List.listTooLong (items.size+i2.size))=true:=by
  have :Builtin.List.listTooLong (items.size+i2.size)=false:=by
   unfold Builtin.List.listTooLong;rw[yW];simp only[decide_eq_false_iff_not];exact fun e=>lD 0x716043020030303030303122610302600200683e3320410008080650202 tT hl l1 l2 e
  rw[this];simp
 refine call_meets PySem.F.slot_list_extend ⟨_,hg,rfl⟩ PySem.F.entry_list_extend (PySem.F.args_list_extend_2 _ _) (PySem.AutoSeq1.list_extend_list_list_0 _ items ep a2 i2 e2 hd hsz hsz2) ⟨hg,g2,?_⟩;exact EvQ.turn hS hL e hi hg (by rw[Array.toList_append];exact h3.append r2) .none q
theorem VRs.dropLast{v:List Value}{x:List Val}(r:VRs h I n v x):VRs h I n v.dropLast x.dropLast:=by
 rw[List.dropLast_eq_take,List.dropLast_eq_take,r.length];exact r.take _
theorem call_pop(hS:SR B s S I)(hL:LR B nc env s.heap I S μ)(hv:VR s.heap I S.n v (.loc t n))(e:S.H t=some (n,.list xs))(hl:xs.length<=1000)(hy:xs.getLast?=some y)(q:Q y (S.put t n (.list xs.dropLast))):EvS B A nc env (call (.builtin "list.pop") [v]) μ s S I Q:=by
 obtain⟨mm,cm,hF,hM⟩:=id hL;obtain⟨rfl,l⟩:=VR.loc_inv hv;refine xae2a (hS.obj _ _ _ e) fun hi items ep h2 h3=>?_;have l1:=h3.length;simp only[yF]at l1;have hg:s.heap.get? (I t n).id=some (listOf items ep):=hi▸h2;have hsz:items.size<=sizeLine:=by rw[yW];exact lB 0x72610000683e33210060303030303031200 tT hl l1
 rw[List.getLast?_eq_getElem?]at hy;refine xea (h3.get hy) fun u hu hr=>?_;have hu':items[items.size-1]?=some u:=by rw[l1];simpa using hu
 refine call_meets PySem.F.slot_list_pop ⟨_,hg,rfl⟩ PySem.F.entry_list_pop (PySem.F.args_list_pop_1 _) (PySem.MeetsSeq.list_pop_last _ items ep u hu' hsz) ⟨hg,?_⟩;have he:(items.eraseIdxIfInBounds (items.size-1)).toList=items.toList.dropLast:=by
  have hpos:items.size-1<items.size:=by
   rcases Nat.lt_or_ge (items.size-1) items.size with h|h;.exact h
   .rw[Array.getElem?_eq_none h]at hu';cases hu'
  unfold Array.eraseIdxIfInBounds;rw[dif_pos hpos,Array.toList_eraseIdx,List.dropLast_eq_take,<-yF,List.eraseIdx_eq_take_drop_succ];rw[List.drop_eq_nil_of_le (by exact lB 0x706041210000604121000 tT (le_sub_ad _ _)),yS]
 exact EvQ.turn hS hL e hi hg (by rw[he];exact h3.dropLast) hr q
theorem call_len(hS:SR B s S I)(hL:LR B nc env s.heap I S μ)(hv:VR s.heap I S.n v x)(p:lenOf x S Q):EvS B A nc env (call (.builtin "len") [v]) μ s S I Q:=by
 obtain⟨xs,e,hl,q⟩:=p;unfold AS.seqOf at e;split at e
 .cases e;refine xe2a2 (VR.tup_inv hv) fun _ _ e_2 g r=>?_;clear hv;subst e_2;have :=r.length;refine PyProof.Rows.len_tuple (isTup_of g) (by simp only[List.size_toArray];lia) ?_;simp only[List.size_toArray,this];exact EvQ.pure _ hS hL (.int _ _) q
 .refine xe2a2e3a3 (listAt_of hS hv e) fun t1 n1 e_2 k1 a1 i1 e1 e_7 w1 g1 r1=>?_;subst e_2;subst e_7;have l1:=r1.length;simp only[yF]at l1;refine Calls.call_len_list (isList_of g1) (by lia) ?_;rw[l1];exact EvQ.pure _ hS hL (.int _ _) q
theorem call_abs{t:Tok}(hS:SR B s S I)(hL:LR B nc env s.heap I S μ)(q:Q (.int (i.natAbs:Int)) S):EvS B A nc env (call (.builtin "abs") [.int i t]) μ s S I Q:=by
 refine call_abs_int fun u tk=>EvQ.pure _ hS hL ?_ q;have :(if i<0 then-i else i)=(i.natAbs:Int):=by split<;>lia
 rw[this];exact .int _ _
theorem call_min{j:Int}{t u:Tok}(hh:A.handled=none)(hS:SR B s S I)(hL:LR B nc env s.heap I S μ)(q:Q (.int (Min.min i j)) S):EvS B A nc env (call (.builtin "min") [.int i t,.int j u]) μ s S I Q:=by
 refine min_two_ints hh fun h' tk hk=>?_;obtain⟨mm,cm,hF,hM⟩:=id hL;refine xa3 (grow hS hF hM hk tk) fun S1 E1 F1 M1=>?_;refine⟨_,_,_,q,S1,E1,⟨mm,cm,F1,M1⟩,?_⟩;split;.rw[show Min.min i j=j by lia];exact .int _ _
 .rw[show Min.min i j=i by lia];exact .int _ _
variable{i:Nat}
set_option tactic.hygienic true in theorem call_toList(hS:SR B s S I)(hL:LR B nc env s.heap I S μ)(hv:VR s.heap I S.n v x)(e:S.seqOf x=some xs)(q:newL xs S Q):EvS B A nc env (call (.type "list") [v]) μ s S I Q:=by
 obtain⟨hl,t,q⟩:=q;unfold AS.seqOf at e;split at e
 .cases e;refine xe2a2 (VR.tup_inv hv) fun _ _ e_2 g r=>?_;clear hv;subst e_2;rename_i a items;have :=r.length;exact call_list_seq (hsz:=by simp only[List.size_toArray,yW];exact lB 0x72610000683e33210060303030303031200 tT hl this) a (.inr rfl) g rfl rfl fun h' c' hk hD=>EvQ.listG (k:=s.toks) hS hL (size_none _) (by simpa using r) hk hD q
 .refine xe2a2e3a3 (listAt_of hS hv e) fun t1 n1 e_2 k1 a1 i1 e1 e_7 w1 g1 r1=>?_;subst e_2;subst e_7;have l1:=r1.length;simp only[yF]at l1;exact call_list_seq (hsz:=by rw[yW];exact lB 0x72610000683e33210060303030303031200 tT hl l1) a1 (.inl rfl) g1 rfl rfl fun h' c' hk hD=>EvQ.listG (k:=s.toks) hS hL (size_none _) r1 hk hD q
theorem call_toTuple(hS:SR B s S I)(hL:LR B nc env s.heap I S μ)(hv:VR s.heap I S.n v x)(e:S.seqOf x=some xs)(hl:xs.length<=1000)(q:Q (.tup xs) S):EvS B A nc env (call (.type "tuple") [v]) μ s S I Q:=by
 unfold AS.seqOf at e;split at e;.cases e;refine xe2a2 (VR.tup_inv hv) fun _ _ e_2 g r=>?_;clear hv;subst e_2;exact call_tuple_tup (isTup_of g) (EvQ.same hS hL (.tup g r) q)
 .refine xe2a2e3a3 (listAt_of hS hv e) fun t1 n1 e_2 k1 a1 i1 e1 e_7 w1 g1 r1=>?_;subst e_2;subst e_7;have l1:=r1.length;simp only[yF]at l1;obtain⟨mm,cm,hF,hM⟩:=id hL;refine kde_tupleOf (hS.Fr hF) (news_rest (ex:=[])) (isList_of g1) (by exact lB 0x72610000683e33210060303034200 tT hl l1) rfl fun D h' F' N' _=>?_;exact EvQ.tuple (k:=s.toks) hS hF hM r1 F' N' q
variable{Q:SQ}
theorem find_list{id:String}{P:Value×List Value->Shared->Prop}(hS:SR B s S I)(hv:VR s.heap I S.n v (.loc t n))(e:S.H t=some (n,.list xs))(slot:Slot "list" name id)(hty:typeOf (.builtin id)=pure (.type "method_descriptor"))(h:P (.builtin id,[v]) s):wpAny (model B.prog B.w) A (getMethod v name pl) P (fun _ _=>False) s:=by
 obtain⟨rfl,l⟩:=VR.loc_inv hv;refine xae2a (hS.obj _ _ _ e) fun hi items ep h2 h3=>?_;have hg:s.heap.get? (I t n).id=some (listOf items ep):=hi▸h2;exact getMethod_builtin ⟨_,hg,rfl⟩ PySem.F.plainAttrs_list slot hty (fun a e=>by cases e;exact⟨_,hg,rfl⟩) h
theorem find_dict{xs:List (Int×Val)}{id:String}{P:Value×List Value->Shared->Prop}(hS:SR B s S I)(hv:VR s.heap I S.n v (.loc t n))(e:S.H t=some (n,.dictI xs))(slot:Slot "dict" name id)(hty:typeOf (.builtin id)=pure (.type "method_descriptor"))(h:P (.builtin id,[v]) s):wpAny (model B.prog B.w) A (getMethod v name pl) P (fun _ _=>False) s:=by
 obtain⟨rfl,l⟩:=VR.loc_inv hv;refine xaea (hS.obj _ _ _ e) fun hi ps hd hp=>?_;have hd':s.heap.DictOf (PySem.intKind B.prog B.w) (I t n).id ps:=hi▸hd;exact getMethod_builtin hd'.typeIs PySem.F.plainAttrs_dict slot hty hd'.mapOf.noDict h
def NCinj(nc:NC):Prop:=∀x y i,nc.lookup x=some i->nc.lookup y=some i->x=y
noncomputable def ncOk(nc:NC):Bool:=nc.all fun p=>nc.all fun q=>!(p.2==q.2)||p.1==q.1
theorem ncOk_inj(h:ncOk nc=true):NCinj nc:=by
 intro x y i hx hy;have mx:=mem_of_lookup hx;have my:=mem_of_lookup hy;unfold ncOk at h;have :=yL.mp (yL.mp h _ mx) _ my;simp only[beq_self_eq_true,Bool.not_true,Bool.false_or,yG]at this;exact this
inductive UnF(B:Base)(nc:NC)(env:Env)(W:Addr->Prop)(s:Shared)(S:AS)(I:Interp)(K:Mu->AS->Prop)(s':Shared):Prop|mk(μ':Mu)(S':AS)(I':Interp)(q:K μ' S')(hS:SR B s' S' I')(hE:Ext W s S I s' S' I')(hL:LR B nc env s'.heap I' S' μ')
theorem store_local{x:Str}(C:FC B A env d)(hN:NCinj nc)(hn:nc.lookup x=some i)(hk:env.kindOf x=some .local)(hS:SR B s S I)(hL:LR B nc env s.heap I S μ)(hv:VR s.heap I S.n v y)(q:K (μ.set i (some y)) S):wpAny (model B.prog B.w) A (storeName env x v) (fun _ s'=>UnF B nc env (We env) s S I K s') (fun _ _=>False) s:=by
  obtain⟨m,cm,hF,hM⟩:=hL;have hp:(env.scope.kind==.class||(env.scope.kind==.module&&env.locals !=env.globals))=false:=by rw[C.kind];rfl
  have w:=hF.wokE;have slot:∀z j,nc.lookup z=some j->z≠x->j≠i:=fun z j hz hne q=>hne (hN z x i (q▸hz) hn);refine wpAny_storeName_local hk hF.ns (fun h' hn' hs'=>?_) hp;have old:∀a,h'.get? a=none->s.heap.get? a=none:=fun a e=>by
    by_cases z:a=env.locals
    .refine xe3a hn' fun o _ _ ho _=>?_;rw[z,ho]at e;cases e
    .rw[<-hs'.2 a z];exact e
  obtain⟨S1,E1⟩:=hS.kept (s':={s with heap:=h',toks:=s.toks+1}) (W:=We env) (fun a o e hw=>(hs'.2 a hw).trans e) w.base w.data w.live old rfl rfl;refine⟨_,_,_,q,S1,E1,_,cm,⟨hn',hF.above,fun n c hn e=>?_,hF.apart,hF.cells,hF.offL⟩,fun z j hz y' e=>?_⟩;.refine xea (hF.cell n c hn e) fun o h1 h2=>?_;exact⟨o,(hs'.2 c (fun z=>(hF.cells n c hn (mem_of_lookup e)).1 z.symm)).trans h1,h2⟩
  . by_cases hzx:z=x
    . clear slot hn';subst hzx;rw[hn]at hz;cases hz;have hi:i<μ.length:=by
        rcases Nat.lt_or_ge i μ.length with h|h;.exact h
        .rw[yJ (by rw[yD];exact h)]at e;cases e
      rw[zP hi]at e;cases e;exact⟨v,.inl ⟨hk,zU rfl⟩,hv.up E1.up⟩
    . rw[zK (slot z j hz hzx).symm]at e;refine xea (hM z j hz y' e) fun u a b=>?_;refine⟨u,?_,b.up E1.up⟩;rcases a with⟨a,a'⟩|a;.exact .inl ⟨a,by rw[zN hzx];exact a'⟩
      .exact .inr a
theorem store_cell{x:Str}(C:FC B A env d)(hN:NCinj nc)(hn:nc.lookup x=some i)(hk:env.kindOf x=some .cell)(hc:(env.cells.lookup x).isSome=true)(hx:x≠CLS)(hS:SR B s S I)(hL:LR B nc env s.heap I S μ)(hv:VR s.heap I S.n v y)(q:K (μ.set i (some y)) S):wpAny (model B.prog B.w) A (storeName env x v) (fun _ s'=>UnF B nc env (Wf env) s S I K s') (fun _ _=>False) s:=by
  obtain⟨m,cm,hF,hM⟩:=hL;have w:=hF.wokF hS;have slot:∀z j,nc.lookup z=some j->z≠x->j≠i:=fun z j hz hne q=>hne (hN z x i (q▸hz) hn);obtain⟨c,hc⟩:=Option.isSome_iff_exists.mp hc;refine wpAny_storeName_cell C.kind hk hc (hF.cell x c hx hc) fun h' hc' hs'=>?_;have cw:=hF.cells x c hx (mem_of_lookup hc);have old:∀a,h'.get? a=none->s.heap.get? a=none:=fun a e=>by
    by_cases z:a=c;.refine xea hc' fun o ho _=>?_;rw[z,ho]at e;cases e
    .rw[<-hs'.2 a z];exact e
  obtain⟨S1,E1⟩:=hS.kept (s':={s with heap:=h'}) (W:=Wf env) (fun a o e hw=>(hs'.2 a (fun z=>hw (.inr ⟨x,hx,z▸hc⟩))).trans e) w.base w.data w.live old rfl rfl;refine⟨_,_,_,q,S1,E1,m,fun y=>if y=x then some v else cm y,⟨hF.ns.sameBut hs' cw.1,hF.above,fun n c' hn' e=>?_,hF.apart,hF.cells,hF.offL⟩,fun z j hz y' e=>?_⟩
  . by_cases hnx:n=x;.clear hn hk hx slot;subst hnx;rw[hc]at e;cases e;simpa using hc'
    .rw[zN hnx];exact(hF.cell n c' hn' e).sameBut hs' fun z=>hnx (name_of_addr hF.apart (mem_of_lookup e) (z▸mem_of_lookup hc))
  . by_cases hzx:z=x
    . clear hx slot;subst hzx;rw[hn]at hz;cases hz;have hi:i<μ.length:=by
        rcases Nat.lt_or_ge i μ.length with h|h;.exact h
        .rw[yJ (by rw[yD];exact h)]at e;cases e
      rw[zP hi]at e;cases e;exact⟨v,.inr ⟨.inl hk,zU rfl,by rw[hc];rfl⟩,hv.up E1.up⟩
    . rw[zK (slot z j hz hzx).symm]at e;refine xea (hM z j hz y' e) fun u a b=>?_;refine⟨u,?_,b.up E1.up⟩;rcases a with a|⟨a1,a2,a3⟩;.exact .inl a
      .exact .inr ⟨a1,by show(if z=x then _ else _)=_;rw[zN hzx];exact a2,a3⟩
theorem UnF.trans(e:Ext W s S I s₁ S₁ I₁)(h:UnF B nc env W s₁ S₁ I₁ K s'):UnF B nc env W s S I K s':=by
 obtain⟨μ',S',I',q,a,b,c⟩:=h;exact⟨μ',S',I',q,a,e.trans b,c⟩
theorem UnF.tail{t:Sem α}(e:Ext W s S I s₁ S₁ I₁)(h:wpAny (model B.prog B.w) A t (fun _ s'=>UnF B nc env W s₁ S₁ I₁ K s') (fun _ _=>False) s₁):wpAny (model B.prog B.w) A t (fun _ s'=>UnF B nc env W s S I K s') (fun _ _=>False) s₁:=zB h (fun _ _ z=>UnF.trans e z) fun _ _ z=>z
theorem UnF.weaken{W':Addr->Prop}(h:UnF B nc env W s S I K s')(hw:∀a,W a->W' a):UnF B nc env W' s S I K s':=by
 obtain⟨μ',S',I',q,a,b,c⟩:=h;exact⟨μ',S',I',q,a,b.weaken fun a h=>.inl (hw a h),c⟩
theorem store_step{x:Str}(C:FC B A env d)(hN:NCinj nc)(hn:nc.lookup x=some i)(hk:env.kindOf x=some .local\/(env.kindOf x=some .cell/\(env.cells.lookup x).isSome=true/\x≠CLS))(hS:SR B s S I)(hL:LR B nc env s.heap I S μ)(hv:VR s.heap I S.n v y)(q:K (μ.set i (some y)) S):wpAny (model B.prog B.w) A (storeName env x v) (fun _ s'=>UnF B nc env (Wf env) s S I K s') (fun _ _=>False) s:=by
 rcases hk with hk|⟨hk,hc,hx⟩;.exact zB (store_local C hN hn hk hS hL hv q) (fun _ s' h=>UnF.weaken h fun a h=>.inl h) fun _ _ z=>z
 .exact store_cell C hN hn hk hc hx hS hL hv q
theorem stores_step(ts:List (Str×(Value->Sem Unit))):∀(is:List Nat)(vs:List Value)(ys:List Val)(μ:Mu)(s:Shared)(I:Interp),ts.length=is.length->(∀p∈ts.zip is,∀v y μ s I(K:Mu->AS->Prop),SR B s S I->LR B nc env s.heap I S μ->VR s.heap I S.n v y->K (μ.set p.2 (some y)) S->wpAny (model B.prog B.w) A (p.1.2 v) (fun _ s'=>UnF B nc env W s S I K s') (fun _ _=>False) s)->SR B s S I->LR B nc env s.heap I S μ->VRs s.heap I S.n vs ys->ys.length=is.length->K (setAll is ys μ) S->wpAny (model B.prog B.w) A (assignInOrder (ts.map (·.2)) vs) (fun _ s'=>UnF B nc env W s S I K s') (fun _ _=>False) s:=by
 induction ts with
 |nil=>
  intro is vs ys μ s I hl hn hS hL hv hy q;clear hn;cases is with|cons _ _=>cases hl|nil=>
   cases ys with|cons _ _=>cases hy|nil=>
    cases hv;exact wpAny_assignInOrder_none ⟨μ,S,I,q,hS,.refl,hL⟩
 |cons x ts ih=>
  intro is vs ys μ s I hl hn hS hL hv hy q;cases is with
  |nil=>cases hl|cons i is=>
   cases ys with|nil=>cases hy|cons y ys=>
    cases hv with|cons a r=>
     rw[List.map_cons];refine wpAny_assignInOrder_more ?_;refine zB (hn (x,i) (by simp) _ _ μ s I (fun μ' S'=>μ'=μ.set i (some y)/\S'=S) hS hL a ⟨rfl,rfl⟩) ?_ fun _ _ z=>z;clear hS hL a;rintro _ s₁⟨μ',S',I',⟨rfl,rfl⟩,S1,E1,L1⟩;exact UnF.tail E1 (ih is _ ys _ s₁ I' (by simpa using hl) (fun p hp=>hn p (by simp[hp])) S1 L1 (r.up E1.up) (by simpa using hy) q)
set_option backward.match.sparseCases true
variable{K:List Val->(AS->Prop)->AS->Prop}
structure Nudge(wr:List Addr)(s s':Shared):Prop where
 keep:∀a o,s.heap.get? a=some o->a∉wr->s'.heap.get? a=some o
 gens:s'.gens=s.gens
 os:s'.os=s.os
structure Off(B:Base)(env:Env)(s:Shared)(S:AS)(I:Interp)(a:Addr):Prop where
 here:∃o,s.heap.get? a=some o/\Soft o
 frame:¬Wf env a
 base:B.hp.get? a=none
 live:∀t v o',S.H t=some (v,o')->(I t v).cell≠a
theorem SR.nudge(hS:SR B s S I)(hO:∀a∈wr,Off B env s S I a)(N:Nudge wr s s'):SR B s' S I/\Up s.heap I S.n s'.heap I S.n:=by
  have tup:∀a o,s.heap.get? a=some o->o.cls=.type "tuple"->(∃xs n,o.data=.seq xs n)->s'.heap.get? a=some o:=fun a o e c⟨xs,n,dd⟩=>N.keep a o e fun hw=>by
    refine xea ((hO a hw).here) fun o' h1 h2=>?_;rw[e]at h1;cases h1;exact h2.1 c _ _ dd
  have u:Up s.heap I S.n s'.heap I S.n:=⟨yO _,fun _ _ _=>rfl,tup⟩;refine⟨⟨fun b o e=>N.keep b o (hS.keep b o e) fun hw=>?_,hS.lt,fun t v o e=>(hS.obj t v o e).keep u (fun ob h=>N.keep _ _ h fun hw=>?_) fun ob h=>N.keep _ _ h fun hw=>(hO _ hw).live t v o e rfl,hS.inj,hS.new,N.gens.trans hS.gens,N.os.trans hS.os⟩,u⟩;.rw[(hO b hw).base]at e;cases e
  . rcases(hS.obj t v o e).ident with q|⟨C,q⟩;.rw[q]at hw;exact(hO _ hw).live t v o e rfl
    .refine xea ((hO _ hw).here) fun o' h1 h2=>?_;rw[q]at h1;cases h1;exact h2.2 rfl
theorem FR.nudge(hF:FR B env s.heap I S m cm)(hw:∀a∈wr,¬Wf env a)(N:Nudge wr s s'):FR B env s'.heap I S m cm:=by
 refine xe3a hF.ns fun o es ep ho r=>?_;refine⟨⟨o,es,ep,N.keep _ _ ho (fun q=>hw _ q (.inl rfl)),r⟩,hF.above,fun n c hn e=>?_,hF.apart,hF.cells,hF.offL⟩;refine xea (hF.cell n c hn e) fun oc h1 h2=>?_;exact⟨oc,N.keep _ _ h1 (fun q=>hw _ q (.inr ⟨n,hn,e⟩)),h2⟩
theorem LR.nudge(hS:SR B s S I)(hL:LR B nc env s.heap I S μ)(hO:∀a∈wr,Off B env s S I a)(N:Nudge wr s s'):LR B nc env s'.heap I S μ:=by obtain⟨m,cm,f,r⟩:=hL;exact⟨m,cm,f.nudge (fun a h=>(hO a h).frame) N,r.up (hS.nudge hO N).2⟩
theorem Ext.nudge(x:Ext W s₀ S₀ I₀ s S I)(hS:SR B s S I)(hO:∀a∈wr,Off B env s S I a)(N:Nudge wr s s')(hf:∀a∈wr,s₀.heap.get? a=none):Ext W s₀ S₀ I₀ s' S I:=by
 refine⟨x.up.trans (hS.nudge hO N).2,fun a o e hw hl=>N.keep a o (x.keep a o e hw hl) fun q=>(by rw[hf a q]at e;cases e),fun a e=>?_,x.fresh⟩;by_cases q:a∈wr;.exact hf a q
 .refine x.old a ?_;cases z:s.heap.get? a with|none=>rfl|some o=>rw[N.keep a o z q]at e;cases e
theorem Off.ext(x:Off B env s S I a)(e:Ext W s S I s' S' I')(hw:¬W a):Off B env s' S' I' a:=by
 refine xea x.here fun o h1 h2=>?_;refine⟨⟨o,e.keep _ _ h1 hw x.live,h2⟩,x.frame,x.base,fun t v o' q z=>?_⟩;rcases e.fresh t v o' q with⟨⟨o0,h0⟩,hI⟩|h;.exact x.live t v o0 h0 (hI▸z)
 .rw[z,h1]at h;cases h
theorem Off.nudge(x:Off B env s S I a)(h:∃o,s'.heap.get? a=some o/\Soft o):Off B env s' S I a:=⟨h,x.frame,x.base,x.live⟩
structure It(B:Base)(A:Around)(env:Env)(target:Expr)(itv:Value)(wr:List Addr)(items:List Val)(chk:AS->Prop)(J:Nat->Shared->AS->Interp->Prop):Prop where
 off:∀i s S I,J i s S I->∀a∈wr,Off B env s S I a
 step:∀i s S I x,J i s S I->SR B s S I->items[i]?=some x->wpAny (model B.prog B.w) A (pyNext itv) (fun r s₁=>∃v,r=some v/\Nudge wr s s₁/\VR s₁.heap I S.n v x/\(∀a∈wr,Off B env s₁ S I a)/\wpAny (model B.prog B.w) A (letOwnedTupleGo target itv v) (fun _ s₂=>Nudge wr s₁ s₂/\J (i+1) s₂ S I) (fun _ _=>False) s₁) (fun _ _=>False) s
 last:∀s S I,J items.length s S I->SR B s S I->wpAny (model B.prog B.w) A (pyNext itv) (fun r s₁=>r=none/\Nudge wr s s₁) (fun _ _=>False) s
 self:∀i s S I P,J i s S I->P itv s->wpAny (model B.prog B.w) A (pyIter itv) P (fun _ _=>False) s
 keep:∀i s S I s' S' I' W,J i s S I->SR B s S I->Ext W s S I s' S' I'->(∀a∈wr,¬W a)->chk S'->J i s' S' I'
theorem letOwned_skip{n:String}{P:Unit->Shared->Prop}(ho:s.heap.get? it=some o)(hc:o.cls=.type n)(hn:["enumerate","zip","dict_itemiterator","dict_reverseitemiterator","odict_iterator","itertools.zip_longest","itertools.pairwise"].contains n=false)(h:P () s):wpAny (model B.prog B.w) A (letOwnedTupleGo target (.ref it) v) P (fun _ _=>False) s:=by
 unfold letOwnedTupleGo;have fin:wpAny (model B.prog B.w) A (do
   let(.ref r,.ref a):=(Value.ref it,v)|return
   let o<-load r match o.cls,o.data with
   |.type n,.fields vs=>if["enumerate","zip","dict_itemiterator","dict_reverseitemiterator","odict_iterator","itertools.zip_longest","itertools.pairwise"].contains n&&vs[0]?==some (rawInt a)then
    rule "for.unpacks-the-owned-tuple";updateField r 0 .none|_,_=>pure ():Sem Unit) P (fun _ _=>False) s:=by
  cases v<;>first|exact zR h|skip
  refine zC (wpAny_load ho ?_);rw[hc];cases o.data with
  |fields vs=>
   dsimp only;rw[hn,Bool.false_and];exact zR h|_=>exact zR h
 cases target<;>first|exact zR h|exact fin
theorem Nudge.same(hs:Heap.SameBut it s.heap h'):Nudge [it] s {s with heap:=h',toks:=k}:=⟨fun a o e n=>(hs.2 a (by simpa using n)).trans e,rfl,rfl⟩
theorem Nudge.ext(hs:Heap.ExtBut it s.heap h'):Nudge [it] s {s with heap:=h',toks:=k}:=⟨fun a o e n=>hs a o (by simpa using n) e,rfl,rfl⟩
theorem off_one(x:Off B env s S I it):∀a∈[it],Off B env s S I a:=fun a h=>by rw[zD]at h;exact h▸x
theorem It.list(hh:A.handled=none):It B A env target (.ref it) [it] items (fun S'=>S'.listAt x=some items) (fun i s S I=>Off B env s S I it/\S.listAt x=some items/\∃l,VR s.heap I S.n (.ref l) x/\s.heap.IsListIter it l i)where
 off:=fun i s S I h=>off_one h.1;step:=fun i s S I y h hS hy=>by
  refine xa2ea h fun o e l hv hit=>?_;refine xe2a2e3a3 (listAt_of hS hv e) fun t1 n1 e_2 k1 a1 i1 e1 q w1 g1 r1=>?_;subst e_2;cases q;refine xea (r1.get hy) fun u hu hr=>?_;refine wpAny_pyNext_list_item hit (isList_of g1) (x:=u) (by simpa using hu) fun h' hit' hs'=>?_;have N:Nudge [it] s {s with heap:=h'}:=Nudge.same (k:=s.toks) hs';have up:=(hS.nudge (off_one o) N).2;have o1:Off B env {s with heap:=h'} S I it:=o.nudge (hit'.imp fun ob p=>⟨p.1,.fields p.2.2⟩);refine⟨u,rfl,N,hr.up up,off_one o1,?_⟩;refine xea2 (id hit') fun ob p1 p2 p3=>?_;refine letOwned_skip (s:={s with heap:=h'}) p1 p2 (by decide) ⟨⟨fun a o e _=>e,rfl,rfl⟩,o1,e,l,hv.up up,hit'⟩
 last:=fun s S I h hS=>by
  refine xa2ea h fun o e l hv hit=>?_;refine xe2a2e3a3 (listAt_of hS hv e) fun t1 n1 e_2 k1 a1 i1 e1 q w1 g1 r1=>?_;subst e_2;cases q;have l1:=r1.length;simp only[yF]at l1;exact wpAny_pyNext_list_end hh hit (isList_of g1) (by rw[<-l1];simp) fun h' he=>⟨rfl,Nudge.ext (k:=s.toks) he⟩
 self:=fun i s S I P h q=>h.2.2.elim fun l h=>wpAny_pyIter_listiter h.2 q;keep:=fun i s S I s' S' I' W h hS hE hw hc=>by
  refine xa2ea h fun o e l hv hit=>?_;have hw:=hw it (by simp);refine xea hit fun ob p1 p2=>?_;exact⟨o.ext hE hw,hc,l,hv.up hE.up,ob,hE.keep _ _ p1 hw o.live,p2⟩
theorem It.tuple{l:Addr}(hh:A.handled=none)(c:AS->Prop):It B A env target (.ref it) [it] items c (fun i s S I=>Off B env s S I it/\s.heap.get? l=some {cls:=.type "tuple",data:=.seq vs.toArray}/\VRs s.heap I S.n vs items/\s.heap.IsTupleIter it l i)where
 off:=fun i s S I h=>off_one h.1;step:=fun i s S I y h hS hy=>by
  refine xa3 h fun o e hv hit=>?_;refine xea (hv.get hy) fun u hu hr=>?_;refine wpAny_pyNext_tuple_item hit (isTup_of e) (x:=u) (by simpa using hu) fun h' hit' hs'=>?_;have N:Nudge [it] s {s with heap:=h'}:=Nudge.same (k:=s.toks) hs';have up:=(hS.nudge (off_one o) N).2;have o1:Off B env {s with heap:=h'} S I it:=o.nudge (hit'.imp fun ob p=>⟨p.1,.fields p.2.2⟩);refine⟨u,rfl,N,hr.up up,off_one o1,?_⟩;refine xea2 (id hit') fun ob p1 p2 p3=>?_;exact letOwned_skip (s:={s with heap:=h'}) p1 p2 (by decide) ⟨⟨fun a o e _=>e,rfl,rfl⟩,o1,up.tup _ _ e rfl ⟨_,_,rfl⟩,hv.up up,hit'⟩
 last:=fun s S I h hS=>by
  refine xa3 h fun o e hv hit=>?_;have l1:=hv.length;exact wpAny_pyNext_tuple_end hh hit (isTup_of e) (by rw[<-l1];simp) fun h' he=>⟨rfl,Nudge.ext (k:=s.toks) he⟩
 self:=fun i s S I P h q=>wpAny_pyIter_tupleiter h.2.2.2 q;keep:=fun i s S I s' S' I' W h hS hE hw hc=>by
  refine xa3 h fun o e hv hit=>?_;have hw:=hw it (by simp);refine xea hit fun ob p1 p2=>?_;exact⟨o.ext hE hw,hE.up.tup _ _ e rfl ⟨_,_,rfl⟩,hv.up hE.up,ob,hE.keep _ _ p1 hw o.live,p2⟩
variable{vs:List Val}
theorem It.range{a c:Int}(hh:A.handled=none)(cc:AS->Prop):It B A env target (.ref it) [it] ((List.range n).map fun i:Nat=>.int (a+c*(i:Int))) cc (fun i s S I=>Off B env s S I it/\IsRangeIter s.heap it (a+c*(i:Nat)) ((n:Int)-(i:Nat)) c)where
 off:=fun i s S I h=>off_one h.1;step:=fun i s S I y h hS hy=>by
  obtain⟨o,hit⟩:=h;rw[zX,yX]at hy;obtain⟨j,hj,rfl⟩:=hy;have hin:i<n:=by
   rcases Nat.lt_or_ge i n with h|h;.exact h
   .rw[yJ (by simpa using h)]at hj;cases hj
  rw[List.getElem?_range hin]at hj;cases hj;refine wpAny_pyNext_range_item hit (by exact lB 0x7160010463454021054020002 tT hin) fun h' hit' hs'=>?_;have N:Nudge [it] s {s with heap:=h',toks:=s.toks+1}:=Nudge.same hs';have o1:Off B env {s with heap:=h',toks:=s.toks+1} S I it:=o.nudge ⟨_,hit',.fields rfl⟩;refine⟨_,rfl,N,.int _ _,off_one o1,?_⟩;refine letOwned_skip (s:={s with heap:=h',toks:=s.toks+1}) hit' rfl (by decide) ⟨⟨fun a o e _=>e,rfl,rfl⟩,o1,?_⟩;have e1:a+c*((i+1:Nat):Int)=a+c*(i:Int)+c:=by push_cast;rw[Int.mul_add,Int.mul_one,Int.add_assoc]
  have e2:(n:Int)-((i+1:Nat):Int)=(n:Int)-(i:Int)-1:=by push_cast;exact lB 0x756341234540210540200340412540210540200 tT
  rw[e1,e2];exact hit'
 last:=fun s S I h hS=>by
  have hit:=h.2;rw[zA,yQ]at hit;exact wpAny_pyNext_range_end hh hit (by exact lA 0x7360234540200540200 tT) fun h' he=>⟨rfl,Nudge.ext (k:=s.toks) he⟩
 self:=fun i s S I P h q=>wpAny_pyIter_rangeiter h.2 q;keep:=fun i s S I s' S' I' W h hS hE hw hc=>have hw:=hw it (zD.mpr rfl);⟨h.1.ext hE hw,hE.keep _ _ h.2 hw h.1.live⟩
theorem off_two{e:Addr}(x:Off B env s S I e)(y:Off B env s S I it):∀a∈[e,it],Off B env s S I a:=fun a h=>(zL.mp h).elim (fun q=>q▸x) (off_one y a)
theorem Nudge.two{e:Addr}(hk:∀a o,a≠e->a≠it->s.heap.get? a=some o->h'.get? a=some o):Nudge [e,it] s {s with heap:=h',toks:=k}:=⟨fun a o q n=>hk a o (fun z=>n (z▸zF ..)) (fun z=>n (z▸zI _ (zF ..))) q,rfl,rfl⟩
theorem It.enum{e:Addr}(hh:A.handled=none)(hei:e≠it):It B A env (.Tuple elts kk pos) (.ref e) [e,it] (enumVals items) (fun S'=>S'.listAt x=some items) (fun i s S I=>(Off B env s S I e/\Off B env s S I it)/\S.listAt x=some items/\(∃l,VR s.heap I S.n (.ref l) x/\s.heap.IsListIter it l i)/\∃old,IsEnum s.heap e it i old)where
 off:=fun i s S I q=>off_two q.1.1 q.1.2;step:=fun i s S I y h hS hy=>by
  refine xa3 h fun oo el hl he=>?_;refine xea hl fun l hv hit=>?_;refine he.elim fun old he=>?_;clear h hl;refine xe2a2e3a3 (listAt_of hS hv el) fun t1 n1 e_2 k1 a1 i1 e1 q w1 g1 r1=>?_;cases q;unfold enumVals at hy;rw[zX,yX]at hy;refine xea hy fun q_0 hz hy=>?_;obtain⟨z,j⟩:=q_0;rw[List.getElem?_zipIdx,yX]at hz;obtain⟨z',hz,q⟩:=hz;cases q;refine xea (r1.get hz) fun u hu hr=>?_;rw[<-hy];clear hy hz;refine wpAny_pyNext_enum_item he hit (isList_of g1) (x:=u) (by rw[<-Array.getElem?_toList];exact hu) hei fun h' he' hit' ht' hz' hk'=>?_;have N:Nudge [e,it] s {s with heap:=h',toks:=s.toks+1}:=.two hk';refine(hS.nudge (off_two oo.1 oo.2) N).elim fun S1 up=>?_;have o1:Off B env {s with heap:=h',toks:=s.toks+1} S I e:=oo.1.nudge ⟨_,he',.fields rfl⟩;have o2:Off B env {s with heap:=h',toks:=s.toks+1} S I it:=oo.2.nudge (hit'.imp fun ob p=>⟨p.1,.fields p.2.2⟩);refine⟨_,rfl,N,.tup (items:=[.int i s.toks,u]) ht' (.cons ?_ (.cons (hr.up up) .nil)),off_two o1 o2,?_⟩;.rw[Nat.zero_add];exact .int _ _
  .refine wpAny_letOwnedTupleGo_enum (s:={s with heap:=h',toks:=s.toks+1}) he' fun h2 he2 hs2=>?_;have N2:Nudge [e,it] {s with heap:=h',toks:=s.toks+1} {s with heap:=h2,toks:=s.toks+1}:=.two fun a o n _ q=>(hs2.2 a n).trans q;have up2:=(S1.nudge (off_two o1 o2) N2).2;exact hit'.elim fun ob p=>⟨N2,⟨o1.nudge ⟨_,he2,.fields rfl⟩,o2.nudge ⟨ob,(hs2.2 it hei.symm).trans p.1,.fields p.2.2⟩⟩,el,⟨l,(hv.up up).up up2,ob,(hs2.2 it hei.symm).trans p.1,p.2⟩,u,he2⟩
 last:=fun s S I h hS=>by
  refine xa3 h fun oo el hl he=>?_;refine xea hl fun l hv hit=>?_;refine he.elim fun old he=>?_;refine xe2a2e3a3 (listAt_of hS hv el) fun t1 n1 e_2 k1 a1 i1 e1 q w1 g1 r1=>?_;cases q;have l1:=r1.length;have hl:(enumVals items).length=items.length:=by unfold enumVals;rw[zA,List.length_zipIdx]
  rw[hl]at he hit;exact wpAny_pyNext_enum_end hh he hit (isList_of g1) (by rw[<-l1,yF];exact Array.getElem?_eq_none (yO _)) fun h' hx=>⟨rfl,.two (k:=s.toks) fun a o _ n q=>hx a o n q⟩
 self:=fun i s S I P h q=>h.2.2.2.elim fun _ he=>wpAny_pyIter_enum he q;keep:=fun i s S I s' S' I' W h hS hE hw hc=>have hw1:=hw e (zF ..);have hw2:=hw it (zI _ (zF ..));⟨⟨h.1.1.ext hE hw1,h.1.2.ext hE hw2⟩,hc,h.2.2.1.imp fun l q=>⟨q.1.up hE.up,q.2.imp fun ob p=>⟨hE.keep _ _ p.1 hw2 h.1.2.live,p.2⟩⟩,h.2.2.2.imp fun old he=>hE.keep _ _ he hw1 h.1.1.live⟩
set_option backward.match.sparseCases false
inductive FlR(h:Heap)(I:Interp)(n:Nat):Flow->Fl->Prop|next:FlR h I n .next .next|brk:FlR h I n .brk .brk|cont:FlR h I n .cont .cont|ret{v:Value}{x:Val}:VR h I n v x->FlR h I n (.ret v) (.ret x)
inductive StQ(B:Base)(nc:NC)(env:Env)(s:Shared)(S:AS)(I:Interp)(Q:SQ)(f:Flow)(s':Shared):Prop|mk(fl:Fl)(μ':Mu)(S':AS)(I':Interp):Q fl μ' S'->SR B s' S' I'->Ext (Wf env) s S I s' S' I'->LR B nc env s'.heap I' S' μ'->FlR s'.heap I' S'.n f fl->StQ B nc env s S I Q f s'
def ESt(B:Base)(A:Around)(nc:NC)(env:Env)(t:Sem Flow)(μ:Mu)(S:AS)(Q:SQ):Prop:=∀s I,SR B s S I->LR B nc env s.heap I S μ->wpAny (model B.prog B.w) A t (StQ B nc env s S I Q) (fun _ _=>False) s
inductive SrQ(B:Base)(A:Around)(nc:NC)(env:Env)(target:Expr)(μ:Mu)(s:Shared)(S:AS)(I:Interp)(K:List Val->(AS->Prop)->AS->Prop)(itv:Value)(s':Shared):Prop|mk(items:List Val)(chk:AS->Prop)(S':AS)(I':Interp)(wr:List Addr)(J:Nat->Shared->AS->Interp->Prop):K items chk S'->It B A env target itv wr items chk J->J 0 s' S' I'->SR B s' S' I'->Ext (We env) s S I s' S' I'->LR B nc env s'.heap I' S' μ->(∀a∈wr,s.heap.get? a=none)->SrQ B A nc env target μ s S I K itv s'
theorem StQ.trans{K:SQ}{f:Flow}(e:Ext (Wf env) s S I s₁ S₁ I₁)(h:StQ B nc env s₁ S₁ I₁ K f s'):StQ B nc env s S I K f s':=by
 obtain⟨fl,μ',S',I',q,a,b,c,r⟩:=h;exact⟨fl,μ',S',I',q,a,e.trans b,c,r⟩
theorem Ext.eToF(e:Ext (We env) s S I s₁ S₁ I₁):Ext (Wf env) s S I s₁ S₁ I₁:=e.weaken fun a h=>.inl (.inl h)
theorem Off.fresh(hS:SR B s S I)(hL:LR B nc env s.heap I S μ)(hn:s.heap.get? a=none)(ho:s'.heap.get? a=some o)(hs:Soft o):Off B env s' S I a:=by
  obtain⟨m,cm,hF,hM⟩:=hL;refine⟨⟨o,ho,hs⟩,fun h=>?_,?_,fun t v o' e q=>?_⟩
  . rcases h with h|⟨n,hx,h⟩;.refine xe3a hF.ns fun oL _ _ hL _=>?_;rw[h,hL]at hn;cases hn
    .refine xea (hF.cell n a hx h) fun oc hc _=>?_;rw[hc]at hn;cases hn
  .cases z:B.hp.get? a with|none=>rfl|some ob=>have :=hS.keep _ _ z;rw[hn]at this;cases this
  .refine xea (hS.shape e) fun ob h _=>?_;rw[q,hn]at h;cases h
theorem push_keep:∀b ob,h.get? b=some ob->(h.push o).get? b=some ob:=fun _ _ e=>Heap.get?_push_of_some _ e
variable{o:Expr}
set_option tactic.hygienic true in theorem iter_seq(hh:A.handled=none)(hS:SR B s S I)(hL:LR B nc env s.heap I S μ)(hv:VR s.heap I S.n v x)(e:S.seqOf x=some items)(q:K items (fun S'=>S'.seqOf x=some items) S):wpAny (model B.prog B.w) A (pyIter v) (SrQ B A nc env target μ s S I K) (fun _ _=>False) s:=by
 obtain⟨m,cm,hF,hM⟩:=id hL;have fin:∀(o:Obj),Soft o->o.isFreed=false->∀(J:Nat->Shared->AS->Interp->Prop),(∀it,It B A env target (.ref it) [it] items (fun S'=>S'.seqOf x=some items) J->True)->True:=fun _ _ _ _ _=>trivial;unfold AS.seqOf at e;split at e
 .clear fin;cases e;refine xe2a2 (VR.tup_inv hv) fun _ _ e_2 g r=>?_;clear hv;subst e_2;rename_i l vs;refine wpAny_pyIter_tuple (isTup_of g) ?_;refine xa3 (grow hS hF hM (push_keep (o:={cls:=.type "tuple_iterator",data:=.fields #[.ref l,.int 0 0]})) s.toks) fun S1 E1 F1 M1=>?_;have hn:(s.heap.push {cls:=.type "tuple_iterator",data:=.fields #[.ref l,.int 0 0]}).get? s.heap.objs.size=some {cls:=.type "tuple_iterator",data:=.fields #[.ref l,.int 0 0]}:=xB _ rfl;have o1:Off B env {s with heap:=s.heap.push {cls:=.type "tuple_iterator",data:=.fields #[.ref l,.int 0 0]}} S I s.heap.objs.size:=Off.fresh hS hL (size_none _) hn (.fields rfl);exact⟨_,_,S,I,_,_,q,It.tuple (l:=l) (vs:=vs) hh _,⟨o1,push_keep _ _ g,r.up E1.up,_,hn,rfl,rfl⟩,S1,E1,⟨m,cm,F1,M1⟩,fun a h=>by rw[zD]at h;rw[h];exact size_none _⟩
 .rename_i hx;refine xe2a2e3a3 (listAt_of hS hv e) fun t1 n1 e_2 k1 a1 i1 e1 e_7 w1 g1 r1=>?_;clear fin;subst e_2;subst e_7;refine wpAny_pyIter_list (isList_of g1) ?_;refine xa3 (grow hS hF hM (push_keep (o:={cls:=.type "list_iterator",data:=.fields #[.ref a1,.int 0 0]})) s.toks) fun S1 E1 F1 M1=>?_;have hn:(s.heap.push {cls:=.type "list_iterator",data:=.fields #[.ref a1,.int 0 0]}).get? s.heap.objs.size=some {cls:=.type "list_iterator",data:=.fields #[.ref a1,.int 0 0]}:=xB _ rfl;have o1:Off B env {s with heap:=s.heap.push {cls:=.type "list_iterator",data:=.fields #[.ref a1,.int 0 0]}} S I s.heap.objs.size:=Off.fresh hS hL (size_none _) hn (.fields rfl);exact⟨_,_,S,I,_,_,q,It.list (x:=.loc t1 n1) hh,⟨o1,e,a1,hv.up E1.up,_,hn,rfl,rfl⟩,S1,E1,⟨m,cm,F1,M1⟩,fun a h=>by rw[zD]at h;rw[h];exact size_none _⟩
theorem iter_range{r:Addr}{a b c:Int}{t u v:Tok}(hh:A.handled=none)(hS:SR B s S I)(hL:LR B nc env s.heap I S μ)(hr:IsRange s.heap r a b c t u v)(ha:a.natAbs<1000)(hb:b.natAbs<1000)(hc:c=1\/c=-1)(q:K (rngVals a b c) (fun _=>True) S):wpAny (model B.prog B.w) A (pyIter (.ref r)) (SrQ B A nc env target μ s S I K) (fun _ _=>False) s:=by
  obtain⟨m,cm,hF,hM⟩:=id hL;have hsz:0<=Builtin.Range.rangeSize a b c/\Builtin.Range.rangeSize a b c<5000:=by
    unfold Builtin.Range.rangeSize;clear hr q;rcases hc with rfl|rfl
    .simp only[show(1:Int)>0 by decide,if_true,Int.ediv_one];split<;>lia
    .simp only[show¬((-1:Int)>0)by decide,if_false,Int.neg_neg,Int.ediv_one];split<;>lia
  have small:Builtin.Range.small a b c=true:=by
    unfold Builtin.Range.small Builtin.Range.rangeFitsLong;have h1:-(2^63)<=a/\a<2^63:=by lia
    have h2:-(2^63)<=b/\b<2^63:=by lia
    have h3:-(2^63)<=Builtin.Range.rangeSize a b c/\Builtin.Range.rangeSize a b c<2^63:=by lia
    have h4:-(2^63)<=(1:Int)/\(1:Int)<2^63:=by lia
    have h5:-(2^63)<=(-1:Int)/\(-1:Int)<2^63:=by lia
    clear hr q hsz;rcases hc with rfl|rfl
    . have h6:-(2^63)<=b+(1-1)/\b+(1-1)<2^63:=by lia
      simp only[h1,h2,h3,h4,h6,decide_true,Bool.and_self,Bool.or_true,if_true,show(1:Int)>0 by decide]
    . have h6:-(2^63)<=b+(-1+1)/\b+(-1+1)<2^63:=by lia
      simp only[h1,h2,h3,h5,h6,decide_true,Bool.and_self,Bool.or_true,if_false,show¬((-1:Int)>0)by decide]
  refine wpAny_pyIter_range hr small ?_;refine xa3 (grow hS hF hM (push_keep (o:={cls:=.type "range_iterator",data:=.fields #[rawInt a,rawInt (Builtin.Range.rangeSize a b c),rawInt c]})) s.toks) fun S1 E1 F1 M1=>?_;have hn:(s.heap.push {cls:=.type "range_iterator",data:=.fields #[rawInt a,rawInt (Builtin.Range.rangeSize a b c),rawInt c]}).get? s.heap.objs.size=some {cls:=.type "range_iterator",data:=.fields #[rawInt a,rawInt (Builtin.Range.rangeSize a b c),rawInt c]}:=xB _ rfl;have o1:Off B env {s with heap:=s.heap.push {cls:=.type "range_iterator",data:=.fields #[rawInt a,rawInt (Builtin.Range.rangeSize a b c),rawInt c]}} S I s.heap.objs.size:=Off.fresh hS hL (size_none _) hn (.fields rfl);refine⟨_,_,S,I,_,_,q,It.range (a:=a) (c:=c) (n:=(Builtin.Range.rangeSize a b c).toNat) hh _,⟨o1,?_⟩,S1,E1,⟨m,cm,F1,M1⟩,fun a h=>by rw[zD]at h;rw[h];exact size_none _⟩;have e1:a+c*((0:Nat):Int)=a:=by simp
  have e2:(((Builtin.Range.rangeSize a b c).toNat:Nat):Int)-((0:Nat):Int)=Builtin.Range.rangeSize a b c:=by exact lY 0x78180550154020080813554020001560134540202540200 tT (Int.self_le_toNat _) (Int.toNat_of_nonneg (lZ 0x7360102360102 tT hsz.1))
  rw[e1,e2];exact hn
theorem iter_enum(hh:A.handled=none)(hS:SR B s S I)(hL:LR B nc env s.heap I S μ)(hv:VR s.heap I S.n v x)(e:S.listAt x=some items)(q:K (enumVals items) (fun S'=>S'.listAt x=some items) S):wpAny (model B.prog B.w) A (call (.type "enumerate") [v]) (fun xv s₁=>wpAny (model B.prog B.w) A (pyIter xv) (SrQ B A nc env (.Tuple elts kk pos) μ s S I K) (fun _ _=>False) s₁) (fun _ _=>False) s:=by
 obtain⟨m,cm,hF,hM⟩:=id hL;refine xe2a2e3a3 (listAt_of hS hv e) fun t1 n1 e_2 k1 a1 i1 e1 e_7 w1 g1 r1=>?_;subst e_2;subst e_7;refine call_enumerate_list (isList_of g1) fun h' he hit hsz hk=>?_;refine wpAny_pyIter_enum he ?_;refine xa3 (grow hS hF hM hk s.toks) fun S1 E1 F1 M1=>?_;have f1:s.heap.get? s.heap.objs.size=none:=size_none _;have f2:s.heap.get? (s.heap.objs.size+1)=none:=Heap.get?_none_of_le (Nat.le_succ _);refine xea2 (id hit) fun ob p1 p2 p3=>?_;have o1:Off B env {s with heap:=h'} S I s.heap.objs.size:=Off.fresh hS hL f1 p1 (.fields p3);have o2:Off B env {s with heap:=h'} S I (s.heap.objs.size+1):=Off.fresh hS hL f2 he (.fields rfl);refine⟨_,_,S,I,_,_,q,It.enum (x:=.loc t1 n1) hh (Nat.succ_ne_self _),⟨⟨o2,o1⟩,e,⟨a1,hv.up E1.up,hit⟩,_,he⟩,S1,E1,⟨m,cm,F1,M1⟩,fun a h=>?_⟩;rcases zL.mp h with rfl|h;.exact f2
 .rw[zD]at h;rw[h];exact f1
theorem forO_chk{chk:AS->Prop}:∀{items:List Val}{μ:Mu}{S:AS},forO turn chk items μ S Q->chk S:=by
 intro v;induction v with
 |nil=>
  intro _ _ h;exact h.1|cons _ _ ih=>
  intro _ _ h;exact h.1
theorem forLoop_sound{chk:AS->Prop}{J:Nat->Shared->AS->Interp->Prop}(hI:It B A env target itv wr items chk J)(hw:∀a∈wr,¬Wf env a)(hturn:∀x μ S K,turn x μ S K->∀s I v,SR B s S I->LR B nc env s.heap I S μ->VR s.heap I S.n v x->wpAny (model B.prog B.w) A (assign target env v) (fun _ s₁=>wpAny (model B.prog B.w) A (execs body env) (StQ B nc env s S I K) (fun _ _=>False) s₁) (fun _ _=>False) s)(s₀:Shared)(S₀:AS)(I₀:Interp)(hf:∀a∈wr,s₀.heap.get? a=none)(E0:Ext (Wf env) s₀ S₀ I₀ s S I)(hS:SR B s S I)(hL:LR B nc env s.heap I S μ)(hJ:J 0 s S I)(h:forO turn chk items μ S Q):codeAny (model B.prog B.w) A (.forLoop target itv body [] env) (fun r s'=>∃f,r=.ok f/\StQ B nc env s₀ S₀ I₀ Q f s') s:=by
 refine codeAny_forLoop_any (fun k s'=>∃i μ' S' I',k=items.length+1-i/\i<=items.length/\forO turn chk (items.drop i) μ' S' Q/\J i s' S' I'/\SR B s' S' I'/\LR B nc env s'.heap I' S' μ'/\Ext (Wf env) s₀ S₀ I₀ s' S' I') ?_ (items.length+1) ⟨0,μ,S,I,rfl,yA _,h,hJ,hS,hL,E0⟩;intro k s₁ q_r;refine xe4a6 q_r fun i μ₁ S₁ I₁ e_4 hi hQ hJ₁ hS₁ hL₁ hE₁=>?_;subst e_4;have hO:=hI.off _ _ _ _ hJ₁
 cases hx:items[i]? with|none=>
  have hi':i=items.length:=by
   rcases Nat.lt_or_ge i items.length with h|h;.rw[zH h]at hx;cases hx
   .exact lB 0x780810500108180051000261000 tT hi h
  clear hi hx;subst hi';rw[List.drop_length]at hQ;refine zB (hI.last _ _ _ hJ₁ hS₁) ?_ fun _ _ z=>z.elim;intro r s₂ q_r;obtain⟨rfl,N⟩:=q_r;refine wpAny_execs_nil ⟨_,rfl,.next,μ₁,S₁,I₁,hQ.2,(hS₁.nudge hO N).1,hE₁.nudge hS₁ hO N hf,hL₁.nudge hS₁ hO N,.next⟩|some x=>
  have hlt:i<items.length:=by
   rcases Nat.lt_or_ge i items.length with h|h;.exact h
   .rw[yJ h]at hx;cases hx
  have hd:items.drop i=x::items.drop (i+1):=by
   rw[List.drop_eq_getElem_cons hlt];rw[zH hlt]at hx;cases hx;rfl
  rw[hd]at hQ;obtain⟨hc,ht⟩:=hQ;refine zB (hI.step _ _ _ _ x hJ₁ hS₁ hx) ?_ fun _ _ z=>z.elim;intro r s₂ q_r;refine xea4 q_r fun v e_1 N hv hO₂ hgo=>?_;subst e_1;have hS₂:=(hS₁.nudge hO N).1;have hL₂:=hL₁.nudge hS₁ hO N;have hE₂:=hE₁.nudge hS₁ hO N hf;refine zB hgo ?_ fun _ _ z=>z.elim;intro _ s₃ q_r;obtain⟨N₂,hJ₃⟩:=q_r;have u₃:=hS₂.nudge hO₂ N₂;have hS₃:=u₃.1;have hL₃:=hL₂.nudge hS₂ hO₂ N₂;have hE₃:=hE₂.nudge hS₂ hO₂ N₂ hf;refine zB (hturn x _ _ _ ht s₃ I₁ v hS₃ hL₃ (hv.up u₃.2)) ?_ fun _ _ z=>z.elim;intro _ s₄ h₄;refine zB h₄ ?_ fun _ _ z=>z.elim;intro f s₅ q_r;obtain⟨fl,μ₅,S₅,I₅,q,hS₅,hE₅,hL₅,hfl⟩:=q_r;have go:forO turn chk (items.drop (i+1)) μ₅ S₅ Q->∃m,m<items.length+1-i/\∃i μ' S' I',m=items.length+1-i/\i<=items.length/\forO turn chk (items.drop i) μ' S' Q/\J i s₅ S' I'/\SR B s₅ S' I'/\LR B nc env s₅.heap I' S' μ'/\Ext (Wf env) s₀ S₀ I₀ s₅ S' I':=fun q=>⟨items.length+1-(i+1),by exact lD 0x706042010041230260412300404122000161000 tT (yC (lB 0x716100006041210041200 tT hlt)) (le_sub_ad _ _),i+1,μ₅,S₅,I₅,rfl,hlt,q,hI.keep _ _ _ _ _ _ _ _ hJ₃ hS₃ hE₅ hw (forO_chk q),hS₅,hL₅,hE₃.trans hE₅⟩;cases hfl with|next=>exact go q|cont=>exact go q|brk=>exact⟨_,rfl,.next,μ₅,S₅,I₅,q,hS₅,hE₃.trans hE₅,hL₅,.next⟩|ret r=>exact⟨_,rfl,.ret _,μ₅,S₅,I₅,q,hS₅,hE₃.trans hE₅,hL₅,.ret r⟩
theorem whileLoop_sound{test:Expr}{c:Mu->AS->(Bool->AS->Prop)->Prop}{b:Mu->AS->SQ->Prop}(hc:∀μ S K,c μ S K->∀s I,SR B s S I->LR B nc env s.heap I S μ->wpAny (model B.prog B.w) A (isTrue test env (eval test env)) (fun t s'=>∃S' I',K t S'/\SR B s' S' I'/\Ext (We env) s S I s' S' I'/\LR B nc env s'.heap I' S' μ) (fun _ _=>False) s)(hb:∀μ S K,b μ S K->ESt B A nc env (execs body env) μ S K)(h:whO c b n μ S Q)(hS:SR B s S I)(hL:LR B nc env s.heap I S μ):codeAny (model B.prog B.w) A (.whileLoop test body [] env) (fun r s'=>∃f,r=.ok f/\StQ B nc env s S I Q f s') s:=by
 refine codeAny_whileLoop (fun k s'=>∃μ' S' I',whO c b k μ' S' Q/\SR B s' S' I'/\LR B nc env s'.heap I' S' μ'/\Ext (Wf env) s S I s' S' I') ?_ n ⟨μ,S,I,h,hS,hL,.refl⟩;intro k s₁ q_r;refine xe3a3 q_r fun μ₁ S₁ I₁ hk hS₁ hL₁ hE₁=>?_;cases k with|zero=>exact hk.elim|succ k=>
  refine zB (hc _ _ _ hk s₁ I₁ hS₁ hL₁) ?_ fun _ _ z=>z.elim;intro t s₂ q_r;refine xe2a3 q_r fun S₂ I₂ q hS₂ hE₂ hL₂=>?_
  cases t with|false=>
   simp only[Bool.false_eq_true,if_false];exact wpAny_execs_nil ⟨_,rfl,.next,μ₁,S₂,I₂,q,hS₂,hE₁.trans hE₂.eToF,hL₂,.next⟩|true=>
   simp only[if_true];refine zB (hb _ _ _ q s₂ I₂ hS₂ hL₂) ?_ fun _ _ z=>z.elim;intro f s₃ q_r;obtain⟨fl,μ₃,S₃,I₃,q,hS₃,hE₃,hL₃,hfl⟩:=q_r;have E3:=(hE₁.trans hE₂.eToF).trans hE₃;cases hfl with|next=>exact⟨k,xA _,μ₃,S₃,I₃,q,hS₃,hL₃,E3⟩|cont=>exact⟨k,xA _,μ₃,S₃,I₃,q,hS₃,hL₃,E3⟩|brk=>exact⟨_,rfl,.next,μ₃,S₃,I₃,q,hS₃,E3,hL₃,.next⟩|ret r=>exact⟨_,rfl,.ret _,μ₃,S₃,I₃,q,hS₃,E3,hL₃,.ret r⟩
variable{Q:List Val->AS->Prop}{body:Sts}
inductive NmsOk(nc:NC)(ok:Str->Prop):List Expr->List Nat->Prop|nil:NmsOk nc ok [] []|cons{x:Str}{pos:Pos}{i:Nat}{es:List Expr}{is:List Nat}:nc.lookup x=some i->ok x->NmsOk nc ok es is->NmsOk nc ok (.Name x pos::es) (i::is)
inductive TgOk(nc:NC)(ok:Str->Prop):Expr->List Nat->Prop|one{x:Str}{pos:Pos}{i:Nat}:nc.lookup x=some i->ok x->TgOk nc ok (.Name x pos) [i]|many{es:List Expr}{k:Nat}{pos:Pos}{is:List Nat}:NmsOk nc ok es is->2<=is.length->TgOk nc ok (.Tuple es k pos) is
noncomputable def nmTs(env:Env):List Expr->List (Str×(Value->Sem Unit))|.Name x pos::r=>(x,assign (.Name x pos) env)::nmTs env r|_=>[]
theorem NmsOk.each{ok:Str->Prop}(h:NmsOk nc ok es is):assignEach es env=(nmTs env es).map (fun p=>(false,p.2))/\(nmTs env es).length=is.length:=by
 induction h with|nil=>exact⟨rfl,rfl⟩|cons _ _ _ ih=>exact⟨by show(false,assign _ env)::assignEach _ env=_;rw[ih.1];rfl,by show(nmTs env _).length+1=_;rw[ih.2];rfl⟩
abbrev StoreOk(B:Base)(A:Around)(nc:NC)(env:Env)(ok:Str->Prop)(W:Addr->Prop):Prop:=∀x i,nc.lookup x=some i->ok x->∀v y μ s S I(K:Mu->AS->Prop),SR B s S I->LR B nc env s.heap I S μ->VR s.heap I S.n v y->K (μ.set i (some y)) S->wpAny (model B.prog B.w) A (storeName env x v) (fun _ s'=>UnF B nc env W s S I K s') (fun _ _=>False) s
theorem NmsOk.stores{ok:Str->Prop}(hst:StoreOk B A nc env ok W)(h:NmsOk nc ok es is):∀p∈(nmTs env es).zip is,∀v y μ s I(K:Mu->AS->Prop),SR B s S I->LR B nc env s.heap I S μ->VR s.heap I S.n v y->K (μ.set p.2 (some y)) S->wpAny (model B.prog B.w) A (p.1.2 v) (fun _ s'=>UnF B nc env W s S I K s') (fun _ _=>False) s:=by
 induction h with|nil=>exact fun p hp=>absurd hp List.not_mem_nil|cons h1 h2 _ ih=>
  intro p hp;rcases zL.mp hp with rfl|hp
  .intro v y μ s I K hS hL hv q;exact wpAny_assign_Name (hst _ _ h1 h2 v y μ s S I K hS hL hv q)
  .exact ih p hp
set_option tactic.hygienic true in theorem asn_sound{ok:Str->Prop}(hh:A.handled=none)(hst:StoreOk B A nc env ok W){K:Mu->Prop}(ht:TgOk nc ok target is)(hS:SR B s S I)(hL:LR B nc env s.heap I S μ)(hv:VR s.heap I S.n v y)(q:bindNames is y μ K):wpAny (model B.prog B.w) A (assign target env v) (fun _ s'=>UnF B nc env W s S I (fun μ' S'=>K μ'/\S'=S) s') (fun _ _=>False) s:=by
 cases ht with|one h1 h2=>exact wpAny_assign_Name (hst _ _ h1 h2 v y μ s S I _ hS hL hv ⟨q.2,rfl⟩)|many hn h2=>
  rename_i es _ _;obtain⟨vs,rfl,hl,hi,q⟩:∃vs,y=.tup vs/\vs.length=is.length/\(∀i∈is,i<μ.length)/\K (setAll is vs μ):=by
   unfold bindNames at q;split at q;.simp at h2
   .exact q
  refine xe2a2 (VR.tup_inv hv) fun _ _ e_2 g r=>?_;clear hv;subst e_2;obtain⟨e1,e2⟩:=hn.each (env:=env);have lr:=r.length;obtain⟨m,cm,hF,hM⟩:=id hL;refine assign_Tuple_tuple hh (isTup_of g) (by rw[e1,zA,e2,List.size_toArray,lr,hl]) (by
   rw[e1,List.findIdx?_eq_none_iff];intro x hx;refine xea (yE.mp hx) fun p _ e_2=>?_;clear hx;subst e_2;rfl) fun h' hx=>?_;have hk:∀b o,s.heap.get? b=some o->h'.get? b=some o:=fun b o e=>hx b o (Nat.ne_of_lt (Heap.lt_size e)) e;refine xa3 (grow hS hF hM hk s.toks) fun S1 E1 F1 M1=>?_;have e3:(assignEach es env).map (·.2)=(nmTs env es).map (·.2):=by rw[e1,List.map_map];rfl
  rw[e3];have E2:Ext W s S I {s with heap:=h'} S I:=by
   have :=(hS.kept (s':={s with heap:=h'}) (W:=fun _=>False) (fun a o e _=>hk a o e) (fun _ z=>z.elim) (fun _ _ z=>z.elim) (fun _ _ _ _ z=>z) (fun a e=>by
    cases q:s.heap.get? a with|none=>rfl|some o=>rw[hk a o q]at e;cases e) rfl rfl).2;exact this.weaken fun _ z=>z.elim
  exact UnF.tail E2 (stores_step _ is _ vs μ _ I e2 (hn.stores hst) S1 ⟨m,cm,F1,M1⟩ (by simpa using r.up E1.up) hl ⟨q,rfl⟩)
theorem storesL(C:FC B A env d)(hN:NCinj nc):StoreOk B A nc env (fun x=>env.kindOf x=some .local) (We env):=fun x i hn hk v y μ s S I K hS hL hv q=>store_local C hN hn hk hS hL hv q
theorem storesF(C:FC B A env d)(hN:NCinj nc):StoreOk B A nc env (fun x=>env.kindOf x=some .local\/(env.kindOf x=some .cell/\(env.cells.lookup x).isSome=true/\x≠CLS)) (Wf env):=fun x i hn hk v y μ s S I K hS hL hv q=>store_step C hN hn hk hS hL hv q
structure CS(B:Base)(nc nc':NC)(env cenv:Env)(D:Addr)(μ μc:Mu)(s:Shared)(S:AS)(I:Interp)(acc:List Val):Prop where
 sr:SR B s S I
 lr:LR B nc env s.heap I S μ
 lc:LR B nc' cenv s.heap I S μc
 dat:∃arr ep,s.heap.get? D=some (listOf arr ep)/\VRs s.heap I S.n arr.toList acc
 offD:∀t v o',S.H t=some (v,o')->(I t v).cell≠D
abbrev Wc(cenv:Env)(D:Addr)(a:Addr):Prop:=a=cenv.locals\/a=D
structure CA(B:Base)(env cenv:Env)(D:Addr):Prop where
 d1:¬Wf env D
 d2:¬Wf cenv D
 d3:B.hp.get? D=none
 c1:¬Wf env cenv.locals
 c2:B.hp.get? cenv.locals=none
theorem CS.step(x:CS B nc nc' env cenv D μ μc s S I acc)(a:CA B env cenv D)(hS:SR B s' S' I')(hE:Ext (We cenv) s S I s' S' I')(hL:LR B nc' cenv s'.heap I' S' μ'):CS B nc nc' env cenv D μ μ' s' S' I' acc:=by
 refine xe2a x.dat fun arr ep h1 h2=>?_;have hD:D≠cenv.locals:=fun q=>a.d2 (.inl q);refine⟨hS,x.lr.ext x.sr hE fun b hb q=>a.c1 (q▸hb),hL,⟨arr,ep,hE.keep _ _ h1 hD x.offD,h2.up hE.up⟩,fun t v o' e q=>?_⟩;rcases hE.fresh t v o' e with⟨⟨o0,h0⟩,hI⟩|h;.exact x.offD t v o0 h0 (hI▸q)
 .rw[q,h1]at h;cases h
theorem LR.nudgeW{env0:Env}(hS:SR B s S I)(hL:LR B nc env s.heap I S μ)(hO:∀a∈wr,Off B env0 s S I a)(hw:∀a∈wr,¬Wf env a)(N:Nudge wr s s'):LR B nc env s'.heap I S μ:=let⟨m,cm,f,r⟩:=hL;⟨m,cm,f.nudge hw N,r.up (hS.nudge hO N).2⟩
theorem CS.nudge{env0:Env}(x:CS B nc nc' env cenv D μ μc s S I acc)(hO:∀a∈wr,Off B env0 s S I a)(hw:∀a∈wr,¬Wf env a/\¬Wf cenv a/\a≠D)(N:Nudge wr s s'):CS B nc nc' env cenv D μ μc s' S I acc:=by
 obtain⟨h1,h2⟩:=x.sr.nudge hO N;refine xe2a x.dat fun arr ep e1 e2=>?_;exact⟨h1,x.lr.nudgeW x.sr hO (fun a h=>(hw a h).1) N,x.lc.nudgeW x.sr hO (fun a h=>(hw a h).2.1) N,⟨arr,ep,N.keep _ _ e1 fun q=>(hw D q).2.2 rfl,e2.up h2⟩,x.offD⟩
theorem CS.offD'(x:CS B nc nc' env cenv D μ μc s S I acc)(a:CA B env cenv D):Off B env s S I D:=by
 refine xe2a x.dat fun arr ep e1 e2=>?_;exact⟨⟨_,e1,.list rfl rfl⟩,a.d1,a.d3,x.offD⟩
theorem Ext.eToC(e:Ext (We cenv) s S I s₁ S₁ I₁):Ext (Wc cenv D) s S I s₁ S₁ I₁:=e.weaken fun a h=>.inl (.inl h)
theorem CS.append{P:Value->Shared->Prop}(x:CS B nc nc' env cenv D μ μc s S I acc)(a:CA B env cenv D)(hv:VR s.heap I S.n v y)(hl:acc.length<=1000)(h:∀s',CS B nc nc' env cenv D μ μc s' S I (acc++[y])->Ext (Wc cenv D) s S I s' S I->P .none s'):wpAny (model B.prog B.w) A (call (.builtin "list.append") [.ref D,v]) P (fun _ _=>False) s:=by
 have hO:=off_one (x.offD' a);refine xe2a x.dat fun arr ep e1 e2=>?_;have l1:=e2.length;simp only[yF]at l1;have hsz:arr.size<=sizeLine:=by rw[yW];exact lB 0x72610000683e33210060303030303031200 tT hl l1
 refine call_meets PySem.F.slot_list_append ⟨_,e1,rfl⟩ PySem.F.entry_list_append (PySem.F.args_list_append_2 _ _) (list_append _ arr ep v hsz) ⟨e1,?_⟩;have hg':=Heap.get?_update_self (Obj.mapSeq fun x=>x.push v) e1 rfl;have N:Nudge [D] s {s with heap:=s.heap.update D (Obj.mapSeq fun x=>x.push v)}:=⟨fun b o e n=>(Heap.get?_update_other _ _ (by simpa using Ne.symm (by simpa using n))).trans e,rfl,rfl⟩;obtain⟨S1,up⟩:=x.sr.nudge hO N;obtain⟨m,cm,f,r⟩:=x.lc;have old:∀b,(s.heap.update D (Obj.mapSeq fun x=>x.push v)).get? b=none->s.heap.get? b=none:=fun b e=>by
  by_cases q:b=D;.rw[q,hg']at e;cases e
  .rwa[Heap.get?_update_other _ _ (Ne.symm q)]at e
 refine h _ ⟨S1,x.lr.nudge x.sr hO N,⟨m,cm,f.nudge (fun b h=>by rw[zD]at h;rw[h];exact a.d2) N,r.up up⟩,⟨arr.push v,_,hg',by rw[Array.toList_push];exact(e2.up up).append (.cons (hv.up up) .nil)⟩,x.offD⟩ ⟨up,fun b o e hw hl=>N.keep b o e (by simpa using fun q=>hw (.inr q)),old,fun t v o e=>.inl ⟨⟨o,e⟩,rfl⟩⟩
theorem compTurn_one{P:PySem.Fin->Shared->Prop}(h:wpAny (model B.prog B.w) A (pyNext itv) (fun r s₁=>match r with|none=>P (.done .next) s₁|some v=>wpAny (model B.prog B.w) A (letOwnedTupleGo target itv v) (fun _ s₂=>wpAny (model B.prog B.w) A (assign target cenv v) (fun _ s₃=>wpAny (model B.prog B.w) A (forIn ifs true fun c r=>if r=true then do let ok<-isTrue c cenv (eval c cenv);pure (ForInStep.yield ok)else pure (ForInStep.yield r)) (fun ok s₄=>if ok=true then wpAny (model B.prog B.w) A (eval elt cenv) (fun x s₅=>wpAny (model B.prog B.w) A (call (.builtin "list.append") [av,x]) (fun _ s₆=>P (.again (.compLoop (.ListComp elt [⟨target,iter,ifs,0⟩] scope pos) 0 itv av cenv)) s₆) (fun _ _=>False) s₅) (fun _ _=>False) s₄ else P (.again (.compLoop (.ListComp elt [⟨target,iter,ifs,0⟩] scope pos) 0 itv av cenv)) s₄) (fun _ _=>False) s₃) (fun _ _=>False) s₂) (fun _ _=>False) s₁) (fun _ _=>False) s):wpAny (model B.prog B.w) A (compTurn (.ListComp elt [⟨target,iter,ifs,0⟩] scope pos) 0 itv av cenv) P (fun _ _=>False) s:=by
 rw[compTurn_list];refine zC (wpAny_standAt (zC (zB h (fun r s₁ h₁=>?_) fun _ _ h'=>h')));cases r with|none=>exact zR h₁|some v=>
  refine zC (zB h₁ (fun _ s₂ h₂=>zC (zB h₂ (fun _ s₃ h₃=>zC (zB h₃ (fun ok s₄ h₄=>?_) fun _ _ h'=>h')) fun _ _ h'=>h')) fun _ _ h'=>h');cases ok with|false=>exact zR h₄|true=>exact zC (zC (zB h₄ (fun x s₅ h₅=>zC (zB h₅ (fun _ s₆ h₆=>zR (zR h₆)) fun _ _ h'=>h')) fun _ _ h'=>h'))
theorem compTurn_in{iter0:Expr}{ifs0:List Expr}{P:PySem.Fin->Shared->Prop}(h:wpAny (model B.prog B.w) A (pyNext itv) (fun r s₁=>match r with|none=>P (.done .next) s₁|some v=>wpAny (model B.prog B.w) A (letOwnedTupleGo target itv v) (fun _ s₂=>wpAny (model B.prog B.w) A (assign target cenv v) (fun _ s₃=>wpAny (model B.prog B.w) A (forIn ifs true fun c r=>if r=true then do let ok<-isTrue c cenv (eval c cenv);pure (ForInStep.yield ok)else pure (ForInStep.yield r)) (fun ok s₄=>if ok=true then wpAny (model B.prog B.w) A (eval elt cenv) (fun x s₅=>wpAny (model B.prog B.w) A (call (.builtin "list.append") [av,x]) (fun _ s₆=>P (.again (.compLoop (.ListComp elt [⟨target0,iter0,ifs0,0⟩,⟨target,iter,ifs,0⟩] scope pos) 1 itv av cenv)) s₆) (fun _ _=>False) s₅) (fun _ _=>False) s₄ else P (.again (.compLoop (.ListComp elt [⟨target0,iter0,ifs0,0⟩,⟨target,iter,ifs,0⟩] scope pos) 1 itv av cenv)) s₄) (fun _ _=>False) s₃) (fun _ _=>False) s₂) (fun _ _=>False) s₁) (fun _ _=>False) s):wpAny (model B.prog B.w) A (compTurn (.ListComp elt [⟨target0,iter0,ifs0,0⟩,⟨target,iter,ifs,0⟩] scope pos) 1 itv av cenv) P (fun _ _=>False) s:=by
 rw[show compTurn (.ListComp elt [⟨target0,iter0,ifs0,0⟩,⟨target,iter,ifs,0⟩] scope pos) 1 itv av cenv=(do
   standAt iter.pos match<-pyNext itv with
   |none=>pure (.done .next)|some v=>
    letOwnedTupleGo target itv v;assign target cenv v let mut ok:=true;for c in ifs do if ok then ok<-isTrue c cenv (eval c cenv)
    if ok then(do let _<-call (.builtin "list.append") [av,<-eval elt cenv])
    again (.compLoop (.ListComp elt [⟨target0,iter0,ifs0,0⟩,⟨target,iter,ifs,0⟩] scope pos) 1 itv av cenv))from rfl];refine zC (wpAny_standAt (zC (zB h (fun r s₁ h₁=>?_) fun _ _ h'=>h')));cases r with
 |none=>exact zR h₁|some v=>
  refine zC (zB h₁ (fun _ s₂ h₂=>zC (zB h₂ (fun _ s₃ h₃=>zC (zB h₃ (fun ok s₄ h₄=>?_) fun _ _ h'=>h')) fun _ _ h'=>h')) fun _ _ h'=>h');cases ok with|false=>exact zR h₄|true=>exact zC (zC (zB h₄ (fun x s₅ h₅=>zC (zB h₅ (fun _ s₆ h₆=>zR (zR h₆)) fun _ _ h'=>h')) fun _ _ h'=>h'))
theorem compTurn_out{ifs1:List Expr}{P:PySem.Fin->Shared->Prop}(hs:∀x,foldedSetIterable iter1 cenv x=pure x)(h:wpAny (model B.prog B.w) A (pyNext itv) (fun r s₁=>match r with
   |none=>P (.done .next) s₁|some v=>wpAny (model B.prog B.w) A (letOwnedTupleGo target itv v) (fun _ s₂=>wpAny (model B.prog B.w) A (assign target cenv v) (fun _ s₃=>wpAny (model B.prog B.w) A (eval iter1 cenv) (fun x s₄=>wpAny (model B.prog B.w) A (pyIter x) (fun it' s₅=>codeAny (model B.prog B.w) A (.compStart (.ListComp elt [⟨target,iter,[],0⟩,⟨target1,iter1,ifs1,0⟩] scope pos) 1 it' av cenv) (fun r s₆=>match r with
      |.ok _=>P (.again (.compLoop (.ListComp elt [⟨target,iter,[],0⟩,⟨target1,iter1,ifs1,0⟩] scope pos) 0 itv av cenv)) s₆|.error _=>False) s₅) (fun _ _=>False) s₄) (fun _ _=>False) s₃) (fun _ _=>False) s₂) (fun _ _=>False) s₁) (fun _ _=>False) s):wpAny (model B.prog B.w) A (compTurn (.ListComp elt [⟨target,iter,[],0⟩,⟨target1,iter1,ifs1,0⟩] scope pos) 0 itv av cenv) P (fun _ _=>False) s:=by
 rw[show compTurn (.ListComp elt [⟨target,iter,[],0⟩,⟨target1,iter1,ifs1,0⟩] scope pos) 0 itv av cenv=(do
   standAt iter.pos match<-pyNext itv with
   |none=>pure (.done .next)|some v=>
    letOwnedTupleGo target itv v;assign target cenv v let mut ok:=true;for c in([]:List Expr)do if ok then ok<-isTrue c cenv (eval c cenv)
    if ok then
     let x<-eval iter1 cenv;standAt iter1.pos let x<-foldedSetIterable iter1 cenv x let _<-runOwn (.compStart (.ListComp elt [⟨target,iter,[],0⟩,⟨target1,iter1,ifs1,0⟩] scope pos) 1 (<-holding [x] (pyIter x)) av cenv) cenv
    again (.compLoop (.ListComp elt [⟨target,iter,[],0⟩,⟨target1,iter1,ifs1,0⟩] scope pos) 0 itv av cenv))from rfl];refine zC (wpAny_standAt (zC (zB h (fun r s₁ h₁=>?_) fun _ _ h'=>h')));cases r with|none=>exact zR h₁|some v=>
  refine zC (zB h₁ (fun _ s₂ h₂=>zC (zB h₂ (fun _ s₃ h₃=>?_) fun _ _ h'=>h')) fun _ _ h'=>h');refine zC (zR ?_);dsimp only;rw[zU rfl];refine zC (zB h₃ (fun x s₄ h₄=>zC (wpAny_standAt (zC (wpAny_of_eq (hs x) (zC (wpAny_holding (zB h₄ (fun it' s₅ h₅=>?_) fun _ _ h'=>h'))))))) fun _ _ h'=>h');refine zC (wpAny_runOwn (codeAny_mono h₅ fun r s₆ h₆=>?_));cases r with|ok f=>exact zR h₆|error e=>exact h₆.elim
theorem codeAny_compStart_at{it acc:Value}{R:Result->Shared->Prop}(hg:(gens[depth]?).elim false (fun g=>g.is_async !=0)=false)(h0:codeAny (model B.prog B.w) A (.compLoop (.ListComp elt gens scope pos) depth it acc cenv) R s)(h:wpAny (model B.prog B.w) A (pyIter it) (fun it' s'=>codeAny (model B.prog B.w) A (.compLoop (.ListComp elt gens scope pos) depth it' acc cenv) R s') (fun _ _=>False) s):codeAny (model B.prog B.w) A (.compStart (.ListComp elt gens scope pos) depth it acc cenv) R s:=by
 refine codeAny_of_tree ?_;show wpAny _ _ ((compStart (.ListComp elt gens scope pos) depth it acc cenv).onRaise (fun x=>do noteFrame x cenv;standAt theWindowsPlace)) _ _ s;refine wpAny_notedAt ?_;unfold compStart;have e1:((clausesOf (.ListComp elt gens scope pos))[depth]?).elim false (fun g=>g.is_async !=0)=false:=hg;rw[e1];have h':=zB h (fun _ _ z=>z) (fun(x:Value)s'(z:False)=>(z.elim:notedBy (model B.prog B.w) A cenv (fun x s'=>R (.error x) s') x s'));show wpAny _ _ (ask>>=_) _ _ s;refine zC (wpAny_askSetting (wpAny_ite ?_));split;.first|exact zC (zR (zR (And.intro rfl h0)))|exact zR (And.intro rfl h0)
 .refine zC (wpAny_rule ?_);cases hx:(clausesOf (.ListComp elt gens scope pos))[depth]? with|none=>exact zC (zB h' (fun it' s' z=>zR (And.intro rfl z)) fun _ _ z=>z)|some g=>exact zC (wpAny_standAt (zC (zB h' (fun it' s' z=>zR (And.intro rfl z)) fun _ _ z=>z)))
theorem compO_chk{chk:AS->Prop}:∀{items acc:List Val}{S:AS},compO inner chk items acc S Q->chk S/\acc.length<=1000:=by
 intro v;induction v with
 |nil=>
  intro _ _ h;exact⟨h.1,h.2.1⟩|cons _ _ ih=>
  intro _ _ h;exact⟨h.1,h.2.1⟩
theorem compLoop_sound{chk:AS->Prop}{J:Nat->Shared->AS->Interp->Prop}(hW:∀a,Wc cenv D a->W a)(mid:(Shared->Prop)->Shared->Prop)(hmono:∀P P':Shared->Prop,(∀s,P s->P' s)->∀s,mid P s->mid P' s)(hunf:∀(P:PySem.Fin->Shared->Prop)s,wpAny (model B.prog B.w) A (pyNext itv) (fun r s₁=>match r with|none=>P (.done .next) s₁|some v=>wpAny (model B.prog B.w) A (letOwnedTupleGo target itv v) (fun _ s₂=>wpAny (model B.prog B.w) A (assign target cenv v) (fun _ s₃=>mid (P (.again (.compLoop (.ListComp elt gens scope pos) depth itv av cenv))) s₃) (fun _ _=>False) s₂) (fun _ _=>False) s₁) (fun _ _=>False) s->wpAny (model B.prog B.w) A (compTurn (.ListComp elt gens scope pos) depth itv av cenv) P (fun _ _=>False) s)(hmid:∀x acc S K,inner x acc S K->acc.length<=1000->∀s I v,CS B nc nc' env cenv D μ μc s S I acc->VR s.heap I S.n v x->wpAny (model B.prog B.w) A (assign target cenv v) (fun _ s₂=>mid (fun s'=>∃acc' S' I',K acc' S'/\CS B nc nc' env cenv D μ μc s' S' I' acc'/\Ext (Wc cenv D) s S I s' S' I') s₂) (fun _ _=>False) s){env0:Env}(hI:It B A env0 target itv wr items chk J)(hw:∀a∈wr,¬Wf env a/\¬Wf cenv a/\a≠D)(hf:∀a∈wr,s₀.heap.get? a=none)(E0:Ext W s₀ S₀ I₀ s S I)(hC:CS B nc nc' env cenv D μ μc s S I acc)(hJ:J 0 s S I)(h:compO inner chk items acc S Q):codeAny (model B.prog B.w) A (.compLoop (.ListComp elt gens scope pos) depth itv av cenv) (fun r s'=>r=.ok .next/\∃acc' S' I',Q acc' S'/\acc'.length<=1000/\CS B nc nc' env cenv D μ μc s' S' I' acc'/\Ext W s₀ S₀ I₀ s' S' I') s:=by
 refine codeAny_loop rfl (fun k s'=>∃i acc' S' I',k=items.length+1-i/\i<=items.length/\compO inner chk (items.drop i) acc' S' Q/\J i s' S' I'/\CS B nc nc' env cenv D μ μc s' S' I' acc'/\Ext W s₀ S₀ I₀ s' S' I') (fun k s₁ hk=>?_) (items.length+1) ⟨0,acc,S,I,rfl,yA _,h,hJ,hC,E0⟩;refine xe4a5 hk fun i acc₁ S₁ I₁ e_4 hi hQ hJ₁ hC₁ hE₁=>?_;subst e_4;show wpAny _ A ((compTurn (.ListComp elt gens scope pos) depth itv av cenv).onRaise (fun x=>do noteFrame x cenv;theTreesLotGoes x)) _ _ s₁;refine wpAny_noted (zB (hunf (fun fin s'=>match fin with|.done f=>f=.next/\∃acc' S' I',Q acc' S'/\acc'.length<=1000/\CS B nc nc' env cenv D μ μc s' S' I' acc'/\Ext W s₀ S₀ I₀ s' S' I'|.again c'=>c'=.compLoop (.ListComp elt gens scope pos) depth itv av cenv/\∃m,m<items.length+1-i/\∃i acc' S' I',m=items.length+1-i/\i<=items.length/\compO inner chk (items.drop i) acc' S' Q/\J i s' S' I'/\CS B nc nc' env cenv D μ μc s' S' I' acc'/\Ext W s₀ S₀ I₀ s' S' I') s₁ ?_) (fun fin s' z=>?_) fun _ _ z=>z.elim)
 .have hO:=hI.off _ _ _ _ hJ₁;cases hx:items[i]? with|none=>
  have hi':i=items.length:=by
   rcases Nat.lt_or_ge i items.length with h|h;.rw[zH h]at hx;cases hx
   .exact lB 0x780810500108180051000261000 tT hi h
  subst hi';rw[List.drop_length]at hQ;refine zB (hI.last _ _ _ hJ₁ hC₁.sr) ?_ fun _ _ z=>z.elim;intro r s₂ q_r;obtain⟨rfl,N⟩:=q_r;exact⟨rfl,acc₁,S₁,I₁,hQ.2.2,hQ.2.1,hC₁.nudge hO hw N,hE₁.nudge hC₁.sr hO N hf⟩|some x=>
  have hlt:i<items.length:=by
   rcases Nat.lt_or_ge i items.length with h|h;.exact h
   .rw[yJ h]at hx;cases hx
  have hd:items.drop i=x::items.drop (i+1):=by
   rw[List.drop_eq_getElem_cons hlt];rw[zH hlt]at hx;cases hx;rfl
  rw[hd]at hQ;refine xa2 hQ fun hc hl ht=>?_;refine zB (hI.step _ _ _ _ x hJ₁ hC₁.sr hx) ?_ fun _ _ z=>z.elim;intro r s₂ q_r;refine xea4 q_r fun v e_1 N hv hO₂ hgo=>?_;subst e_1;have hC₂:=hC₁.nudge hO hw N;have hE₂:=hE₁.nudge hC₁.sr hO N hf;refine zB hgo ?_ fun _ _ z=>z.elim;intro _ s₃ q_r;obtain⟨N₂,hJ₃⟩:=q_r;have u₃:=(hC₂.sr.nudge hO₂ N₂).2;have hC₃:=hC₂.nudge hO₂ hw N₂;have hE₃:=hE₂.nudge hC₂.sr hO₂ N₂ hf;refine zB (hmid x _ _ _ ht hl s₃ I₁ v hC₃ (hv.up u₃)) ?_ fun _ _ z=>z.elim;intro _ s₄ h₄;refine hmono _ _ ?_ _ h₄;intro s₅ q_r;refine xe3a2 q_r fun acc₅ S₅ I₅ q hC₅ hE₅=>?_;refine⟨rfl,items.length+1-(i+1),by exact lD 0x706042010041230260412300404122000161000 tT (yC (lB 0x716100006041210041200 tT hlt)) (le_sub_ad _ _),i+1,acc₅,S₅,I₅,rfl,hlt,q,hI.keep _ _ _ _ _ _ _ _ hJ₃ hC₃.sr hE₅ (fun a h q=>?_) (compO_chk q).1,hC₅,hE₃.trans (hE₅.weaken fun a h=>.inl (hW a h))⟩;rcases q with q|q;.exact(hw a h).2.1 (.inl q)
  .exact(hw a h).2.2 q
 .cases fin with|done f=>exact⟨zG Except.ok z.1,z.2⟩|again c=>exact z
variable{Q:VQ}
abbrev midOne(B:Base)(A:Around)(cenv:Env)(elt:Expr)(ifs:List Expr)(av:Value)(P:Shared->Prop)(s:Shared):Prop:=wpAny (model B.prog B.w) A (forIn ifs true fun c r=>if r=true then do let ok<-isTrue c cenv (eval c cenv);pure (ForInStep.yield ok)else pure (ForInStep.yield r)) (fun ok s₄=>if ok=true then wpAny (model B.prog B.w) A (eval elt cenv) (fun x s₅=>wpAny (model B.prog B.w) A (call (.builtin "list.append") [av,x]) (fun _ s₆=>P s₆) (fun _ _=>False) s₅) (fun _ _=>False) s₄ else P s₄) (fun _ _=>False) s
theorem midOne_mono(P P':Shared->Prop)(hp:∀s,P s->P' s)(s:Shared)(h:midOne B A cenv elt ifs av P s):midOne B A cenv elt ifs av P' s:=by
 refine zB h (fun ok s₄ h₄=>?_) fun _ _ z=>z;cases ok with|false=>exact hp _ h₄|true=>exact zB h₄ (fun x s₅ h₅=>zB h₅ (fun _ s₆ h₆=>hp _ h₆) fun _ _ z=>z) fun _ _ z=>z
theorem LR.forget(x:LR B nc' cenv h I S μ')(hm:∀(j:Nat)(y:Val),μ[j]?=some (some y)->μ'[j]?=some (some y)):LR B nc' cenv h I S μ:=let⟨m,cm,f,r⟩:=x;⟨m,cm,f,fun a i e y q=>r a i e y (hm i y q)⟩
theorem setAll_keep:∀(is:List Nat)(vs:List Val)(μ:Mu),(∀i∈is,μ[i]?=some none)->is.Nodup->∀(j:Nat)(y:Val),μ[j]?=some (some y)->(setAll is vs μ)[j]?=some (some y)
 |[],_,_,_,_,_,_,e=>e|_::_,[],_,_,_,_,_,e=>e|i::is,v::vs,μ,h,hn,j,y,e=>by
  have hne:i≠j:=fun q=>by rw[<-q,h i (by simp)]at e;cases e
  obtain⟨n1,n2⟩:=List.nodup_cons.mp hn;refine setAll_keep is vs (μ.set i (some v)) (fun k hk=>?_) n2 j y (by rw[zK hne];exact e);rw[zK (fun q=>n1 (by rw[q];exact hk))];exact h k (by simp[hk])
theorem bind_keep{K:Mu->Prop}(h:bindNames is x μ K)(hn:is.Nodup)(hm:∀i∈is,μ[i]?=some none):∃μ',K μ'/\(∀(j:Nat)(y:Val),μ[j]?=some (some y)->μ'[j]?=some (some y))/\bindNames is x μ (.=μ'):=by
 rcases is with _|⟨i,_|⟨i',t⟩⟩
 .refine xea3 h fun vs e_1 hl hi q=>?_;clear h;subst e_1;exact⟨_,q,fun _ _ e=>e,vs,rfl,hl,hi,rfl⟩
 .exact⟨_,h.2,fun j y e=>by
  have hne:i≠j:=fun q=>by rw[<-q,hm i (by simp)]at e;cases e
  rw[zK hne];exact e,h.1,rfl⟩
 .refine xea3 h fun vs e_1 hl hi q=>?_;clear h;subst e_1;exact⟨_,q,setAll_keep _ vs μ hm hn,vs,rfl,hl,hi,rfl⟩
theorem comp_mid_one{ok:Str->Prop}(hh:A.handled=none)(hst:StoreOk B A nc' cenv ok (We cenv))(ht:TgOk nc' ok target is)(hnd:is.Nodup)(hm:∀i∈is,μc[i]?=some none)(ca:CA B env cenv D)(htest:∀μ' S K,T μ' S K->∀s I,SR B s S I->LR B nc' cenv s.heap I S μ'->wpAny (model B.prog B.w) A (forIn ifs true fun c r=>if r=true then do let ok<-isTrue c cenv (eval c cenv);pure (ForInStep.yield ok)else pure (ForInStep.yield r)) (fun ok s'=>∃S' I',K ok S'/\SR B s' S' I'/\Ext (We cenv) s S I s' S' I'/\LR B nc' cenv s'.heap I' S' μ') (fun _ _=>False) s)(helt:∀μ' S Q,L μ' S Q->EvJ B A nc' cenv (eval elt cenv) μ' S Q):∀x acc S(K:List Val->AS->Prop),(bindNames is x μc fun μ'=>T μ' S fun b S=>match b with|true=>L μ' S fun v S=>K (acc++[v]) S|false=>K acc S)->acc.length<=1000->∀s I v,CS B nc nc' env cenv D μ μc s S I acc->VR s.heap I S.n v x->wpAny (model B.prog B.w) A (assign target cenv v) (fun _ s₂=>midOne B A cenv elt ifs (.ref D) (fun s'=>∃acc' S' I',K acc' S'/\CS B nc nc' env cenv D μ μc s' S' I' acc'/\Ext (Wc cenv D) s S I s' S' I') s₂) (fun _ _=>False) s:=by
 intro x acc S K hx hl s I v hC hv;refine xea2 (bind_keep hx hnd hm) fun μ₁ hx hk hb=>?_;refine zB (asn_sound hh hst ht hC.sr hC.lc hv hb) ?_ fun _ _ z=>z;clear hv hb;intro _ s₂ q_r;obtain⟨μ₂,S₂,I₂,⟨rfl,rfl⟩,hS₂,hE₂,hL₂⟩:=q_r;have hC₂:=hC.step ca hS₂ hE₂ hL₂;refine zB (htest _ _ _ hx s₂ I₂ hS₂ hL₂) ?_ fun _ _ z=>z;intro b s₃ q_r;refine xe2a3 q_r fun S₃ I₃ q hS₃ hE₃ hL₃=>?_;have hC₃:=hC₂.step ca hS₃ hE₃ hL₃
 cases b with|false=>
  simp only[Bool.false_eq_true,if_false];exact⟨acc,S₃,I₃,q,⟨hC₃.sr,hC₃.lr,hC₃.lc.forget hk,hC₃.dat,hC₃.offD⟩,(hE₂.trans hE₃).eToC⟩|true=>
  simp only[if_true];refine zB (helt _ _ _ q s₃ I₃ hS₃ hL₃) ?_ fun _ _ z=>z;intro u s₄ q_r;obtain⟨y,S₄,I₄,q,hS₄,hE₄,hL₄,hu⟩:=q_r;have hC₄:=hC₃.step ca hS₄ hE₄ hL₄;refine hC₄.append ca hu hl fun s₅ hC₅ hE₅=>?_;exact⟨_,S₄,I₄,q,⟨hC₅.sr,hC₅.lr,hC₅.lc.forget hk,hC₅.dat,hC₅.offD⟩,((hE₂.trans hE₃).trans hE₄).eToC.trans hE₅⟩
structure ScOk(scope:Scope):Prop where
 kind:scope.kind=.function
 nodup:(scope.names.map (·.1)).Nodup
 noCell:∀y∈scope.names,y.2≠.cell
noncomputable def scOk(scope:Scope):Bool:=scope.kind==.function&&decide (scope.names.map (·.1)).Nodup&&scope.names.all (fun y=>y.2 !=.cell)
theorem scOk_of(h:scOk scope=true):ScOk scope:=by
 unfold scOk at h;simp only[yN,decide_eq_true_eq,yL,bne_iff_ne,ne_eq]at h;exact⟨by simpa using h.1.1,h.1.2,h.2⟩
theorem lookup_of_mem{l:List (Str×α)}{n:Str}{k:α}:(l.map (·.1)).Nodup->(n,k)∈l->l.lookup n=some k:=by
 induction l with|nil=>exact fun _ h=>absurd h List.not_mem_nil|cons p r ih=>
  intro hn h;obtain⟨a,b⟩:=p;have hn:=List.nodup_cons.mp hn;rw[yK];rcases zL.mp h with q|h;.cases q;rw[beq_self_eq_true]
  .rw[show(n==a)=false from zQ.mpr fun q=>hn.1 (yE.mpr ⟨(n,k),h,q⟩)];exact ih hn.2 h
theorem lookup_mem{l:List (Str×α)}{n:Str}{k:α}(h:l.lookup n=some k):(n,k)∈l:=mem_of_lookup h
theorem ScOk.names(h:ScOk scope):∀x∈scope.names,x.2=.local->scope.names.lookup x.1=some .local:=fun⟨n,k⟩hx e=>by
 cases e;exact lookup_of_mem h.nodup hx
variable{names:List Str}
theorem closure_go:∀(names:List (Str×NameKind))(acc:List (Str×Addr)),(∀n,(n,.free)∈names->(env.cells.lookup n).isSome=true)->∃cl,(forIn names acc fun(x:Str×NameKind)cs=>(if x.2==.free then(do let c<-cellOf env x.1;pure (.yield ((x.1,c)::cs)))else pure (.yield cs):Sem (ForInStep (List (Str×Addr)))))=pure cl/\(∀p∈cl,p∈acc\/((p.1,.free)∈names/\env.cells.lookup p.1=some p.2))/\(∀p∈acc,p∈cl)/\(∀n,(n,.free)∈names->∃c,(n,c)∈cl)/\(((acc.map (·.1)).Nodup/\(names.map (·.1)).Nodup/\∀p∈acc,∀k,(p.1,k)∉names)->(cl.map (·.1)).Nodup):=by
 intro v;induction v with|nil=>
  intro acc _;exact⟨acc,rfl,fun p hp=>.inl hp,fun p hp=>hp,fun n hn=>by simp at hn,fun h=>h.1⟩|cons b0 r ih=>
    obtain⟨n,k⟩:=b0;intro acc h;rw[List.forIn_cons];by_cases hk:k=.free
    . subst hk;obtain⟨c,hc⟩:=Option.isSome_iff_exists.mp (h n (by simp));refine xea4 (ih ((n,c)::acc) fun n' hn=>h n' (by simp[hn])) fun cl e h1 h2 h3 h4=>?_;refine⟨cl,?_,fun p hp=>?_,fun p hp=>h2 p (by simp[hp]),fun n' hn=>?_,fun hq=>h4 ?_⟩;.unfold cellOf;rw[hc];exact e
      . rcases h1 p hp with q|q
        . clear hp;rcases zL.mp q with rfl|q;.exact .inr ⟨by simp,hc⟩
          .exact .inl q
        .exact .inr ⟨by simp[q.1],q.2⟩
      . rcases zL.mp hn with q|q;.clear hn;cases q;exact⟨c,h2 _ (by simp)⟩
        .exact h3 n' q
      . refine xa2 hq fun q1 q2 q3=>?_;rw[List.map_cons,List.nodup_cons]at q2;refine⟨?_,q2.2,fun p hp k hk=>?_⟩;.rw[List.map_cons,List.nodup_cons];refine⟨fun q=>?_,q1⟩;refine xea (yE.mp q) fun p hp hpe=>?_;exact q3 p hp .free (by rw[hpe];simp)
        . rcases zL.mp hp with rfl|hp;.exact q2.1 (yE.mpr ⟨_,hk,rfl⟩)
          .exact q3 p hp k (by simp[hk])
    . refine xea4 (ih acc fun n' hn=>h n' (by simp[hn])) fun cl e h1 h2 h3 h4=>?_;have hb:(k==NameKind.free)=false:=by simpa using hk
      refine⟨cl,?_,fun p hp=>?_,h2,fun n' hn=>?_,fun hq=>h4 ?_⟩;.dsimp only;rw[hb];exact e
      . rcases h1 p hp with q|q;.exact .inl q
        .exact .inr ⟨by simp[q.1],q.2⟩
      . clear h hb;rcases zL.mp hn with q|q;.clear hn;cases q;exact absurd rfl hk
        .exact h3 n' q
      .refine xa2 hq fun q1 q2 q3=>?_;rw[List.map_cons,List.nodup_cons]at q2;exact⟨q1,q2.2,fun p hp k hk=>q3 p hp k (by simp[hk])⟩
theorem closure_of(hs:ScOk scope)(hc:∀n,(n,.free)∈scope.names->(env.cells.lookup n).isSome=true):∃cl,closureFor scope env=pure cl/\(∀p∈cl,env.cells.lookup p.1=some p.2)/\(∀n,(n,.free)∈scope.names->(cl.lookup n).isSome=true)/\(cl.map (·.1)).Nodup:=by
  refine xea4 (closure_go scope.names [] hc) fun cl e h1 _ h3 h4=>?_;have nd:=h4 ⟨by simp,hs.nodup,by simp⟩;refine⟨cl,?_,fun p hp=>?_,fun n hn=>?_,nd⟩
  .rw[<-e];unfold closureFor;exact bind_pure _
  . rcases h1 p hp with q|q;.simp at q
    .exact q.2
  .obtain⟨c,hc⟩:=h3 n hn;rw[lookup_of_mem nd hc];rfl
theorem lookup_relabel:∀{names:List (Str×NameKind)}{x:Str}{k:NameKind},names.lookup x=some k->(names.map fun(n,k)=>if(k==NameKind.free&&env.scope.kind==.function&&env.kindOf n==some .cell)then(n,NameKind.cell)else(n,k)).lookup x=some k\/(k=.free/\(names.map fun(n,k)=>if(k==NameKind.free&&env.scope.kind==.function&&env.kindOf n==some .cell)then(n,NameKind.cell)else(n,k)).lookup x=some .cell):=by
 intro v;induction v with
 |nil=>
  intro _ _ h;simp at h|cons b0 r ih=>
  obtain⟨n,k'⟩:=b0;intro x k h;have ih:=@ih x k;show List.lookup x ((if(k'==NameKind.free&&env.scope.kind==.function&&env.kindOf n==some .cell)=true then(n,NameKind.cell)else(n,k'))::_)=some k\/(k=.free/\List.lookup x ((if(k'==NameKind.free&&env.scope.kind==.function&&env.kindOf n==some .cell)=true then(n,NameKind.cell)else(n,k'))::_)=some .cell)
  cases hx:x==n with|true=>
   simp only[yK,hx]at h;clear ih;cases h;by_cases hc:(k'==NameKind.free&&env.scope.kind==.function&&env.kindOf n==some .cell)=true;.rw[zU hc];simp only[yN,yG]at hc;exact .inr ⟨hc.1.1,by simp only[yK,hx]⟩
   .rw[zN hc];exact .inl (by simp only[yK,hx])|false=>
   simp only[yK,hx]at h;by_cases hc:(k'==NameKind.free&&env.scope.kind==.function&&env.kindOf n==some .cell)=true;.rw[zU hc];simp only[yK,hx];exact ih h
   .rw[zN hc];simp only[yK,hx];exact ih h
structure NcIn(nc nc':NC)(env:Env)(scope:Scope)(is:List Nat):Prop where
 free:∀n,(n,.free)∈scope.names->(env.kindOf n=some .cell\/env.kindOf n=some .free)
 out:∀x i,nc'.lookup x=some i->i∈is\/(nc.lookup x=some i/\(x,NameKind.free)∈scope.names)
theorem comp_frame{RR:Value->Addr->Result->Shared->Prop}(hs:ScOk scope)(hc1:∀p∈cl,env.cells.lookup p.1=some p.2)(hc2:∀n,(n,.free)∈scope.names->(cl.lookup n).isSome=true)(hc3:(cl.map (·.1)).Nodup)(hN:NcIn nc nc' env scope is)(hm:∀i∈is,μ[i]?=some none)(hS:SR B s S I)(hL:LR B nc env s.heap I S μ)(next:∀C D s₄,CA B env (compEnvC scope cl C env) D->CS B nc nc' env (compEnvC scope cl C env) D μ μ s₄ S I []->Ext (We env) s S I s₄ S I->s.heap.get? C=none->s.heap.get? D=none->C≠D->(∀b o,s.heap.get? b=some o->s₄.heap.get? b=some o)->codeAny (model B.prog B.w) A (.compStart e 0 itv (.ref D) (compEnvC scope cl C env)) (RR (.ref D) C) s₄):wpAny (model B.prog B.w) A (newList []) (fun acc s₃=>wpAny (model B.prog B.w) A (newFunctionEnv scope env.globals cl [] env.qual none .none (some env)) (fun cenv s₄=>codeAny (model B.prog B.w) A (.compStart e 0 itv acc {cenv with scope:=relabel scope env}) (RR acc cenv.locals) s₄) (fun _ _=>False) s₃) (fun _ _=>False) s:=by
  refine wpAny_newObj_type (wpAny_newFunctionEnv hs.noCell (by intro y hy;simp at hy) (fun h₁ hns₁ hsb₁=>?_) hs.kind);dsimp only at hns₁ hsb₁⊢;generalize hH2:s.heap.push {cls:=.type "list",dict:=none,data:=.seq ([]:List Value).toArray}=H2 at hns₁ hsb₁⊢;have hC:H2.objs.size=s.heap.objs.size+1:=by rw[<-hH2,Heap.size_push]
  have hDC:s.heap.objs.size≠H2.objs.size:=by rw[hC];exact Nat.ne_of_lt (xA _)
  have fC:s.heap.get? H2.objs.size=none:=Heap.get?_none_of_le (by rw[hC];exact Nat.le_succ _);have fD:s.heap.get? s.heap.objs.size=none:=size_none _;have old:∀b o,s.heap.get? b=some o->h₁.get? b=some o:=fun b o e=>hsb₁.extBut b o (fun q=>by rw[q,fC]at e;cases e) (Heap.get?_push_of_some _ (hH2▸Heap.get?_push_of_some _ e));have gD:h₁.get? s.heap.objs.size=some (listOf #[] 0):=hsb₁.extBut _ _ hDC (Heap.get?_push_of_some _ (hH2▸xB _ rfl));obtain⟨m,cm,hF,hM⟩:=id hL;refine xa3 (grow hS hF hM old (s.toks+([]:List (Str×Value)).length)) fun S1 E1 F1 M1=>?_;have nf:∀a,s.heap.get? a=none->¬Wf env a/\B.hp.get? a=none/\∀t v o',S.H t=some (v,o')->(I t v).cell≠a:=fun a hn=>by
    refine⟨fun h=>?_,?_,fun t v o' e q=>?_⟩
    . rcases h with h|⟨n,hx,h⟩;.refine xe3a hF.ns fun oL _ _ hL _=>?_;rw[h,hL]at hn;cases hn
      .refine xea (hF.cell n a hx h) fun oc hc _=>?_;rw[hc]at hn;cases hn
    .cases z:B.hp.get? a with|none=>rfl|some ob=>have :=hS.keep _ _ z;rw[hn]at this;cases this
    .refine xea (hS.shape e) fun ob h _=>?_;rw[q,hn]at h;cases h
  refine xa2 (nf _ fC) fun c1 c2 c3=>?_;refine xa2 (nf _ fD) fun d1 d2 d3=>?_;have clM:∀n c,cl.lookup n=some c->env.cells.lookup n=some c:=fun n c h=>hc1 (n,c) (lookup_mem h);have ca:CA B env (compEnvC scope cl H2.objs.size env) s.heap.objs.size:=by
    refine⟨d1,fun h=>?_,d2,c1,c2⟩;rcases h with h|⟨n,hx,h⟩;.exact hDC h
    .exact d1 (.inr ⟨n,hx,clM n _ h⟩)
  refine next H2.objs.size s.heap.objs.size _ ca ⟨S1,⟨m,cm,F1,M1⟩,⟨_,cm,⟨hns₁,?_,fun n c hx h=>F1.cell n c hx (clM n c h),?_,fun n c hx h=>?_,fun t v o e q=>c3 t v o e q⟩,fun x i hx y hy=>?_⟩,⟨#[],0,gD,.nil⟩,d3⟩ E1 fC fD (Ne.symm hDC) old;.refine xe3a hF.ns fun oL _ _ hLg _=>?_;show B.hp.objs.size<=H2.objs.size;rw[hC];exact zE hF.above (Nat.le_of_lt (Nat.lt_succ_of_lt (Heap.lt_size hLg)))
  .show cl.Pairwise fun x y=>x.2≠y.2;have hp:cl.Pairwise fun x y=>x.1≠y.1:=List.pairwise_map.mp hc3;refine List.Pairwise.imp_of_mem (fun{x y}hx hy hne q=>hne ?_) hp;exact name_of_addr hF.apart (lookup_mem (hc1 x hx)) (q▸lookup_mem (hc1 y hy))
  .have h':=hc1 (n,c) h;have :=hF.cells n c hx (lookup_mem h');refine⟨fun q=>c1 (.inr ⟨n,hx,?_⟩),this.2⟩;have q':H2.objs.size=c:=q;rw[q'];exact h'
  . rcases hN.out x i hx with h|⟨h1,h2⟩;.rw[hm i h]at hy;cases hy
    . refine xea (hM x i h1 y hy) fun v a b=>?_;have kf:=hN.free x h2;rcases a with⟨a,_⟩|⟨a1,a2,a3⟩;.rcases kf with k|k<;>rw[k]at a<;>cases a
      . have l:=lookup_of_mem hs.nodup h2;have lr:=lookup_relabel (env:=env) l;refine⟨v,.inr ⟨?_,a2,hc2 x h2⟩,b.up E1.up⟩;rcases lr with z|⟨_,z⟩;.exact .inr z
        .exact .inl z
theorem comp_adopt(t:Tag)(fC:s.heap.get? C=none)(fD:s.heap.get? D=none)(hCD:C≠D)(ca:CA B env (compEnvC scope cl C env) D)(hC:CS B nc nc' env (compEnvC scope cl C env) D μ μ s₅ S₅ I₅ acc)(Ea:Ext (fun a=>We env a\/Wc (compEnvC scope cl C env) D a) s S I s₅ S₅ I₅):∃S' I',S'=S₅.alloc t (.list acc)/\SR B s₅ S' I'/\Ext (We env) s S I s₅ S' I'/\LR B nc env s₅.heap I' S' μ/\VR s₅.heap I' S'.n (.ref D) (.loc t S₅.n)/\Off B env s₅ S' I' C/\∃m,s₅.heap.Ns C m:=by
  obtain⟨mC,cmC,fC',_⟩:=id hC.lc;have oC:Off B env s₅ S₅ I₅ C:=by
    refine xe3a2 fC'.ns fun o es ep h1 h2 _=>?_;exact⟨⟨o,h1,.dict h2⟩,ca.c1,ca.c2,fun t v o e=>fC'.offL t v o e⟩
  refine xe2a hC.dat fun arr ep g1 g2=>?_;have Ec:Ext (We env) s S I s₅ S₅ I₅:=Ea.weaken fun a h=>by
    rcases h with h|h|h;.exact .inl h
    .exact .inr (by rw[h];exact fC)
    .exact .inr (by rw[h];exact fD)
  obtain⟨m,cm,F1,M1⟩:=hC.lr;refine⟨_,_,rfl,hC.sr.adopt (p:=⟨D,D⟩) hC.offD ca.d3 ⟨rfl,arr,ep,g1,g2.up .set⟩,Ec.adopt (p:=⟨D,D⟩) hC.sr.lt fD,⟨m,cm,F1.adopt hC.sr.lt (fun z=>ca.d1 (.inl z)),M1.up .set⟩,?_,⟨oC.here,oC.frame,oC.base,fun t' v o' e q=>?_⟩,mC,fC'.ns⟩;.have :=VR.loc (h:=s₅.heap) (I:=I₅.set t S₅.n ⟨D,D⟩) (n:=S₅.n+1) (t:=t) (v:=S₅.n) (xA _);rw[Interp.set_self]at this;exact this
  . simp only[AS.alloc]at e;by_cases z:t'=t;.rw[zU z]at e;cases e;subst z;rw[Interp.set_self]at q;exact hCD q.symm
    .rw[zN z]at e;rw[Interp.set_ver _ _ _ _ (hC.sr.lt _ _ _ e)]at q;exact oC.live t' v o' e q
theorem comp_end(hS:SR B s₅ S₅ I₅)(hE:Ext (We env) s S I s₅ S₅ I₅)(hL:LR B nc env s₅.heap I₅ S₅ μ)(hv:VR s₅.heap I₅ S₅.n (.ref D) x)(oC:Off B env s₅ S₅ I₅ C)(fC:s.heap.get? C=none)(hs':Heap.SameBut C s₅.heap h')(q:Q x S₅):EvQ B nc env μ s S I Q (.ref D) {s₅ with heap:=h'}:=by
 have N:Nudge [C] s₅ {s₅ with heap:=h'}:=Nudge.same (k:=s₅.toks) hs';obtain⟨S1,up⟩:=hS.nudge (off_one oC) N;exact⟨x,S₅,I₅,q,S1,hE.nudge hS (off_one oC) N (fun a h=>by rw[zD]at h;rw[h];exact fC),hL.nudge hS (off_one oC) N,hv.up up⟩
variable{x:Str}
theorem kind_relabel(h:scope.names.lookup x=some .local):(relabel scope env).names.lookup x=some .local:=by
 rcases lookup_relabel (env:=env) h with z|⟨z,_⟩;.exact z
 .cases z
theorem relabel_free{k:NameKind}(hs:ScOk scope)(h:(relabel scope env).names.lookup x=some k)(hk:k=.cell\/k=.free):(x,NameKind.free)∈scope.names:=by
  have hm:=lookup_mem h;unfold relabel at hm;simp only[yE]at hm;clear h;obtain⟨⟨n,k'⟩,h1,h2⟩:=hm;dsimp only at h2;split at h2
  .rename_i hc;simp only[yN,yG]at hc;clear hk;cases h2;rw[<-hc.1.1];exact h1
  . cases h2;rcases hk with rfl|rfl;.exact absurd rfl (hs.noCell _ h1)
    .exact h1
variable{x:X}
theorem FC.comp(h:FC B A env d)(hs:ScOk scope)(hc2:∀n,(n,.free)∈scope.names->(cl.lookup n).isSome=true):FC B A (compEnvC scope cl C env) d:=⟨hs.kind,h.glob,h.blt,h.depth,h.units,h.handled,fun x k hx hk=>hc2 x (relabel_free hs hx hk)⟩
structure Comp1(B:Base)(A:Around)(nc nc':NC)(env:Env)(d:Nat)(target elt:Expr)(ifs:List Expr)(scope:Scope)(is:List Nat)(T:Mu->AS->(Bool->AS->Prop)->Prop)(L:Mu->AS->VQ->Prop):Prop where
 sc:ScOk scope
 inn:NcIn nc nc' env scope is
 inj:NCinj nc'
 tg:TgOk nc' (fun x=>scope.names.lookup x=some .local) target is
 nd:is.Nodup
 test:∀cenv,FC B A cenv d->cenv.scope=relabel scope env->∀μ' S K,T μ' S K->∀s I,SR B s S I->LR B nc' cenv s.heap I S μ'->wpAny (model B.prog B.w) A (forIn ifs true fun c r=>if r=true then do let ok<-isTrue c cenv (eval c cenv);pure (ForInStep.yield ok)else pure (ForInStep.yield r)) (fun ok s'=>∃S' I',K ok S'/\SR B s' S' I'/\Ext (We cenv) s S I s' S' I'/\LR B nc' cenv s'.heap I' S' μ') (fun _ _=>False) s
 elt:∀cenv,FC B A cenv d->cenv.scope=relabel scope env->∀μ' S Q,L μ' S Q->EvJ B A nc' cenv (eval elt cenv) μ' S Q
theorem NmsOk.mono{ok ok':Str->Prop}(h:∀x,ok x->ok' x)(r:NmsOk nc ok es is):NmsOk nc ok' es is:=by
 induction r with|nil=>exact .nil|cons a b _ ih=>exact .cons a (h _ b) ih
theorem TgOk.mono{ok ok':Str->Prop}(h:∀x,ok x->ok' x)(x:TgOk nc ok e is):TgOk nc ok' e is:=by
 cases x with|one a b=>exact .one a (h _ b)|many a b=>exact .many (a.mono h) b
abbrev innerOf(is:List Nat)(μ:Mu)(T:Mu->AS->(Bool->AS->Prop)->Prop)(L:Mu->AS->VQ->Prop)(x:Val)(acc:List Val)(S:AS)(K:List Val->AS->Prop):Prop:=bindNames is x μ fun μ'=>T μ' S fun b S=>match b with|true=>L μ' S fun v S=>K (acc++[v]) S|false=>K acc S
theorem comp1_loop{Q':List Val->AS->Prop}(C:FC B A env d)(c:Comp1 B A nc nc' env d target elt ifs scope is T L)(hm:∀i∈is,μ[i]?=some none){use:Option (Value->Sem Unit)}{P:Value->Shared->Prop}(hfold:∀x,foldedSetIterable iter env x=pure x)(hsrc:wpAny (model B.prog B.w) A (eval iter env) (fun x s₁=>wpAny (model B.prog B.w) A (pyIter x) (SrQ B A nc env target μ s S I fun items chk S=>compO (innerOf is μ T L) chk items [] S Q') (fun _ _=>False) s₁) (fun _ _=>False) s)(fin:∀cl Ca D s₅ S₅ I₅ acc,s.heap.get? Ca=none->s.heap.get? D=none->Ca≠D->CA B env (compEnvC scope cl Ca env) D->CS B nc nc' env (compEnvC scope cl Ca env) D μ μ s₅ S₅ I₅ acc->Ext (fun a=>We env a\/Wc (compEnvC scope cl Ca env) D a) s S I s₅ S₅ I₅->Q' acc S₅->acc.length<=1000->compPost (model B.prog B.w) A (fun _ _=>False) use P (.ref D) Ca (.ok .next) s₅){npos:Pos}:wpAny (model B.prog B.w) A (comprehension (.ListComp elt [⟨target,iter,ifs,0⟩] scope pos) scope env npos (newList []) false (eval iter env) use) P (fun _ _=>False) s:=by
 obtain⟨cl,hcl,h1,h2,h3⟩:=closure_of c.sc (fun n hn=>by
  have hk:=c.inn.free n hn;rcases hk with k|k;.exact C.cells n _ k (.inl rfl)
  .exact C.cells n _ k (.inr rfl));refine wpAny_comprehension_free (use:=use) rfl hfold hcl c.sc.kind c.sc.names (zB hsrc (fun x s₁ h₁=>zB h₁ (fun itv s₂ h₂=>?_) fun _ _ e=>e) fun _ _ e=>e);obtain⟨items,chk,S₂,I₂,wr,J,hQ,hI,hJ,hS₂,hE₂,hL₂,hf⟩:=h₂;refine comp_frame (RR:=fun acc Ca=>compPost (model B.prog B.w) A (fun _ _=>False) use P acc Ca) c.sc h1 h2 h3 c.inn hm hS₂ hL₂ fun Ca D s₄ ca hC hE₄ fC fD hCD hk=>?_;have Cc:FC B A (compEnvC scope cl Ca env) d:=C.comp c.sc h2;have tg:TgOk nc' (fun x=>(compEnvC scope cl Ca env).kindOf x=some .local) target is:=c.tg.mono fun x hx=>kind_relabel hx;have hO:=hI.off _ _ _ _ hJ;have hw:∀a∈wr,¬Wf env a/\¬Wf (compEnvC scope cl Ca env) a/\a≠D:=fun a ha=>by
  refine xea ((hO a ha).here) fun o ho _=>?_;refine⟨(hO a ha).frame,fun h=>?_,fun q=>by rw[q,fD]at ho;cases ho⟩;rcases h with h|⟨n,hx,h⟩
  .have h':a=Ca:=h;rw[h',fC]at ho;cases ho
  .exact(hO a ha).frame (.inr ⟨n,hx,h1 (n,a) (lookup_mem h)⟩)
 have hJ₄:J 0 s₄ S₂ I₂:=hI.keep _ _ _ _ _ _ _ _ hJ hS₂ hE₄ (fun a ha q=>(hO a ha).frame (.inl q)) (compO_chk hQ).1;have loop:codeAny (model B.prog B.w) A (.compLoop (.ListComp elt [⟨target,iter,ifs,0⟩] scope pos) 0 itv (.ref D) (compEnvC scope cl Ca env)) (compPost (model B.prog B.w) A (fun _ _=>False) use P (.ref D) Ca) s₄:=by
  refine codeAny_mono (compLoop_sound (s₀:=s) (S₀:=S) (I₀:=I) (W:=fun a=>We env a\/Wc (compEnvC scope cl Ca env) D a) (fun a h=>.inr h) (midOne B A (compEnvC scope cl Ca env) elt ifs (.ref D)) midOne_mono (fun P s h=>compTurn_one h) (comp_mid_one C.handled (storesL Cc c.inj) tg c.nd hm ca (c.test _ Cc rfl) (c.elt _ Cc rfl)) hI hw (s:=s₄) hf ((hE₂.trans hE₄).weaken fun a h=>.inl (.inl h)) hC hJ₄ hQ) ?_;intro r s₅ q_r;refine xae3a3 q_r fun e_0 acc S₅ I₅ q hl hC₅ hE₅=>?_;subst e_0;exact fin cl Ca D s₅ S₅ I₅ acc (hE₂.old _ fC) (hE₂.old _ fD) hCD ca hC₅ hE₅ q hl
 refine codeAny_compStart_at rfl loop (hI.self _ _ _ _ _ hJ₄ loop)
theorem ev_comp1(C:FC B A env d)(c:Comp1 B A nc nc' env d target elt ifs scope is T L)(hm:∀i∈is,μ[i]?=some none)(hfold:∀x,foldedSetIterable iter env x=pure x)(hsrc:∀s I,SR B s S I->LR B nc env s.heap I S μ->wpAny (model B.prog B.w) A (eval iter env) (fun x s₁=>wpAny (model B.prog B.w) A (pyIter x) (SrQ B A nc env target μ s S I fun items chk S=>compO (innerOf is μ T L) chk items [] S fun acc S=>newL acc S Q) (fun _ _=>False) s₁) (fun _ _=>False) s):EvJ B A nc env (eval (.ListComp elt [⟨target,iter,ifs,0⟩] scope pos) env) μ S Q:=by
 intro s I hS hL;rw[eval_ListComp];refine comp1_loop (use:=none) (P:=fun v s'=>EvQ B nc env μ s S I Q v s') C c hm hfold (hsrc s I hS hL) ?_;rintro cl Ca D s₅ S₅ I₅ acc fC fD hCD ca hC hE q0 _;obtain⟨hl,t,q⟩:=q0;refine xe2a6e (comp_adopt t fC fD hCD ca hC hE) fun S' I' e_2 S1 E1 L1 hv oC m hn=>?_;subst e_2;exact⟨m,hn,fun h' hs'=>comp_end S1 E1 L1 hv oC fC hs' q⟩
abbrev midOut(B:Base)(A:Around)(cenv:Env)(e:Expr)(iter1:Expr)(av:Value)(P:Shared->Prop)(s:Shared):Prop:=wpAny (model B.prog B.w) A (eval iter1 cenv) (fun x s₄=>wpAny (model B.prog B.w) A (pyIter x) (fun it' s₅=>codeAny (model B.prog B.w) A (.compStart e 1 it' av cenv) (fun r s₆=>match r with|.ok _=>P s₆|.error _=>False) s₅) (fun _ _=>False) s₄) (fun _ _=>False) s
theorem midOut_mono(P P':Shared->Prop)(hp:∀s,P s->P' s)(s:Shared)(h:midOut B A cenv e iter1 av P s):midOut B A cenv e iter1 av P' s:=by
 refine zB h (fun ok s₄ h₄=>zB h₄ (fun it s₅ h₅=>codeAny_mono h₅ fun r s₆ h₆=>?_) fun _ _ z=>z) fun _ _ z=>z;cases r with|ok f=>exact hp _ h₆|error e=>exact h₆
theorem comp_mid_out{iter0:Expr}{ok:Str->Prop}(hh:A.handled=none)(hst:StoreOk B A nc' cenv ok (We cenv))(ht0:TgOk nc' ok target0 [i])(ht1:TgOk nc' ok target1 [j])(hij:i≠j)(hi:μc[i]?=some none)(hj:μc[j]?=some none)(ca:CA B env cenv D)(htest:∀μ' S K,T μ' S K->∀s I,SR B s S I->LR B nc' cenv s.heap I S μ'->wpAny (model B.prog B.w) A (forIn ifs true fun c r=>if r=true then do let ok<-isTrue c cenv (eval c cenv);pure (ForInStep.yield ok)else pure (ForInStep.yield r)) (fun ok s'=>∃S' I',K ok S'/\SR B s' S' I'/\Ext (We cenv) s S I s' S' I'/\LR B nc' cenv s'.heap I' S' μ') (fun _ _=>False) s)(helt:∀μ' S Q,L μ' S Q->EvJ B A nc' cenv (eval elt cenv) μ' S Q)(hsrc2:∀μ' S Q,M μ' S Q->EvJ B A nc' cenv (eval iter1 cenv) μ' S Q):∀x acc S(K:List Val->AS->Prop),(bindNames [i] x μc fun μ'=>M μ' S fun v S=>∃items2,S.seqOf v=some items2/\items2.length<=1000/\compO (fun y acc S K=>bindNames [j] y μ' fun μ2=>T μ2 S fun b S=>match b with|true=>L μ2 S fun v S=>K (acc++[v]) S|false=>K acc S) (fun S'=>S'.seqOf v=some items2) items2 acc S K)->acc.length<=1000->∀s I v,CS B nc nc' env cenv D μ μc s S I acc->VR s.heap I S.n v x->wpAny (model B.prog B.w) A (assign target0 cenv v) (fun _ s₂=>midOut B A cenv (.ListComp elt [⟨target0,iter0,[],0⟩,⟨target1,iter1,ifs,0⟩] scope pos) iter1 (.ref D) (fun s'=>∃acc' S' I',K acc' S'/\CS B nc nc' env cenv D μ μc s' S' I' acc'/\Ext (Wc cenv D) s S I s' S' I') s₂) (fun _ _=>False) s:=by
 intro x acc S K hx hl s I v hC hv;refine xea2 (bind_keep hx (by simp) (fun k h=>by rw[zD]at h;rw[h];exact hi)) fun μ₁ hx hk hb=>?_;have hj₁:μ₁[j]?=some none:=by
  have :bindNames [i] x μc (.=μ₁):=hb;clear hx hk hb;obtain⟨_,rfl⟩:i<μc.length/\μc.set i (some x)=μ₁:=this;rw[zK hij];exact hj
 refine zB (asn_sound hh hst ht0 hC.sr hC.lc hv hb) ?_ fun _ _ z=>z;clear hv hb;intro _ s₂ q_r;obtain⟨μ₂,S₂,I₂,⟨rfl,rfl⟩,hS₂,hE₂,hL₂⟩:=q_r;have hC₂:=hC.step ca hS₂ hE₂ hL₂;refine zB (hsrc2 _ _ _ hx s₂ I₂ hS₂ hL₂) ?_ fun _ _ z=>z;intro u s₃ q_r;obtain⟨y,S₃,I₃,⟨items2,hi2,hl2,q⟩,hS₃,hE₃,hL₃,hu⟩:=q_r;have hC₃:=hC₂.step ca hS₃ hE₃ hL₃;refine zB (iter_seq (nc:=nc') (env:=cenv) (target:=target1) (K:=fun items chk S=>compO (innerOf [j] μ₂ T L) chk items acc S K) hh hS₃ hL₃ hu hi2 q) ?_ fun _ _ z=>z;intro itv s₄ q_r;obtain⟨items,chk,S₄,I₄,wr,J,hQ,hI,hJ,hS₄,hE₄,hL₄,hf⟩:=q_r;have hC₄:=hC₃.step ca hS₄ hE₄ hL₄;have hO:=hI.off _ _ _ _ hJ;have hw:∀a∈wr,¬Wf env a/\¬Wf cenv a/\a≠D:=fun a ha=>by
  have hn:=hf a ha;obtain⟨m,cm,hF,_⟩:=hC₃.lr;refine xe2a hC₃.dat fun arr ep g _=>?_;refine⟨fun h=>?_,(hO a ha).frame,fun q=>by rw[q,g]at hn;cases hn⟩;rcases h with h|⟨n,hx,h⟩;.refine xe3a hF.ns fun oL _ _ hL _=>?_;rw[h,hL]at hn;cases hn
  .refine xea (hF.cell n a hx h) fun oc hc _=>?_;rw[hc]at hn;cases hn
 have loop:=compLoop_sound (s₀:=s₃) (S₀:=S₃) (I₀:=I₃) (W:=Wc cenv D) (fun a h=>h) (midOne B A cenv elt ifs (.ref D)) midOne_mono (fun P s h=>compTurn_in (iter:=iter1) (target0:=target0) (iter0:=iter0) (ifs0:=[]) (scope:=scope) (pos:=pos) h) (comp_mid_one hh hst ht1 (by simp) (fun k h=>by rw[zD]at h;rw[h];exact hj₁) ca htest helt) hI hw hf hE₄.eToC hC₄ hJ hQ;have loop':codeAny (model B.prog B.w) A (.compLoop (.ListComp elt [⟨target0,iter0,[],0⟩,⟨target1,iter1,ifs,0⟩] scope pos) 1 itv (.ref D) cenv) (fun r s₆=>match r with|.ok _=>(∃acc' S' I',K acc' S'/\CS B nc nc' env cenv D μ μc s₆ S' I' acc'/\Ext (Wc cenv D) s S₂ I s₆ S' I')|.error _=>False) s₄:=by
  refine codeAny_mono loop ?_;intro r s₅ q_r;refine xae3a3 q_r fun e_0 acc' S₅ I₅ q hl hC₅ hE₅=>?_;subst e_0;exact⟨acc',S₅,I₅,q,⟨hC₅.sr,hC₅.lr,hC₅.lc.forget hk,hC₅.dat,hC₅.offD⟩,((hE₂.trans hE₃).eToC.trans hE₅)⟩
 exact codeAny_compStart_at rfl loop' (hI.self _ _ _ _ _ hJ loop')
theorem ev_comp2(C:FC B A env d)(sc:ScOk scope)(inn:NcIn nc nc' env scope [i,j])(inj:NCinj nc')(tg0:TgOk nc' (fun x=>scope.names.lookup x=some .local) target [i])(tg1:TgOk nc' (fun x=>scope.names.lookup x=some .local) target1 [j])(hij:i≠j)(hi:μ[i]?=some none)(hj:μ[j]?=some none)(htest:∀cenv,FC B A cenv d->cenv.scope=relabel scope env->∀μ' S K,T μ' S K->∀s I,SR B s S I->LR B nc' cenv s.heap I S μ'->wpAny (model B.prog B.w) A (forIn ifs true fun c r=>if r=true then do let ok<-isTrue c cenv (eval c cenv);pure (ForInStep.yield ok)else pure (ForInStep.yield r)) (fun ok s'=>∃S' I',K ok S'/\SR B s' S' I'/\Ext (We cenv) s S I s' S' I'/\LR B nc' cenv s'.heap I' S' μ') (fun _ _=>False) s)(helt:∀cenv,FC B A cenv d->cenv.scope=relabel scope env->∀μ' S Q,L μ' S Q->EvJ B A nc' cenv (eval elt cenv) μ' S Q)(hsrc2:∀cenv,FC B A cenv d->cenv.scope=relabel scope env->∀μ' S Q,M μ' S Q->EvJ B A nc' cenv (eval iter1 cenv) μ' S Q)(hfold:∀x,foldedSetIterable iter env x=pure x)(hfold1:∀cenv x,foldedSetIterable iter1 cenv x=pure x)(hsrc:∀s I,SR B s S I->LR B nc env s.heap I S μ->wpAny (model B.prog B.w) A (eval iter env) (fun x s₁=>wpAny (model B.prog B.w) A (pyIter x) (SrQ B A nc env target μ s S I fun items chk S=>compO (fun x acc S K=>bindNames [i] x μ fun μ'=>M μ' S fun v S=>∃items2,S.seqOf v=some items2/\items2.length<=1000/\compO (fun y acc S K=>bindNames [j] y μ' fun μ2=>T μ2 S fun b S=>match b with|true=>L μ2 S fun v S=>K (acc++[v]) S|false=>K acc S) (fun S'=>S'.seqOf v=some items2) items2 acc S K) chk items [] S fun acc S=>newL acc S Q) (fun _ _=>False) s₁) (fun _ _=>False) s):EvJ B A nc env (eval (.ListComp elt [⟨target,iter,[],0⟩,⟨target1,iter1,ifs,0⟩] scope pos) env) μ S Q:=by
 intro s I hS hL;rw[eval_ListComp];obtain⟨cl,hcl,h1,h2,h3⟩:=closure_of sc (fun n hn=>by
  have hk:=inn.free n hn;rcases hk with k|k;.exact C.cells n _ k (.inl rfl)
  .exact C.cells n _ k (.inr rfl));refine wpAny_comprehension_free (use:=none) (Q:=fun v s'=>EvQ B nc env μ s S I Q v s') rfl hfold hcl sc.kind sc.names (zB (hsrc s I hS hL) (fun x s₁ h₁=>zB h₁ (fun itv s₂ h₂=>?_) fun _ _ e=>e) fun _ _ e=>e);clear hsrc h₁;obtain⟨items,chk,S₂,I₂,wr,J,hQ,hI,hJ,hS₂,hE₂,hL₂,hf⟩:=h₂;refine comp_frame (is:=[i,j]) (RR:=fun acc Ca=>compPost (model B.prog B.w) A (fun _ _=>False) none (fun v s'=>EvQ B nc env μ s S I Q v s') acc Ca) sc h1 h2 h3 inn (fun k hk=>by
  clear inn tg0 hij hQ;rcases zL.mp hk with rfl|hk;.exact hi
  .rw[zD]at hk;rw[hk];exact hj) hS₂ hL₂ fun Ca D s₄ ca hC hE₄ fC fD hCD hk=>?_;have Cc:FC B A (compEnvC scope cl Ca env) d:=C.comp sc h2;have tgA:TgOk nc' (fun x=>(compEnvC scope cl Ca env).kindOf x=some .local) target [i]:=tg0.mono fun x hx=>kind_relabel hx;have tgB:TgOk nc' (fun x=>(compEnvC scope cl Ca env).kindOf x=some .local) target1 [j]:=tg1.mono fun x hx=>kind_relabel hx;have hO:=hI.off _ _ _ _ hJ;have hw:∀a∈wr,¬Wf env a/\¬Wf (compEnvC scope cl Ca env) a/\a≠D:=fun a ha=>by
  refine xea ((hO a ha).here) fun o ho _=>?_;refine⟨(hO a ha).frame,fun h=>?_,fun q=>by rw[q,fD]at ho;cases ho⟩;rcases h with h|⟨n,hx,h⟩
  .have h':a=Ca:=h;rw[h',fC]at ho;cases ho
  .exact(hO a ha).frame (.inr ⟨n,hx,h1 (n,a) (lookup_mem h)⟩)
 have hJ₄:J 0 s₄ S₂ I₂:=hI.keep _ _ _ _ _ _ _ _ hJ hS₂ hE₄ (fun a ha q=>(hO a ha).frame (.inl q)) (compO_chk hQ).1;have loop:codeAny (model B.prog B.w) A (.compLoop (.ListComp elt [⟨target,iter,[],0⟩,⟨target1,iter1,ifs,0⟩] scope pos) 0 itv (.ref D) (compEnvC scope cl Ca env)) (compPost (model B.prog B.w) A (fun _ _=>False) none (fun v s'=>EvQ B nc env μ s S I Q v s') (.ref D) Ca) s₄:=by
  refine codeAny_mono (compLoop_sound (s₀:=s) (S₀:=S) (I₀:=I) (W:=fun a=>We env a\/Wc (compEnvC scope cl Ca env) D a) (fun a h=>.inr h) (midOut B A (compEnvC scope cl Ca env) (.ListComp elt [⟨target,iter,[],0⟩,⟨target1,iter1,ifs,0⟩] scope pos) iter1 (.ref D)) midOut_mono (fun P s h=>compTurn_out (hfold1 _) h) (comp_mid_out C.handled (storesL Cc inj) tgA tgB hij hi hj ca (htest _ Cc rfl) (helt _ Cc rfl) (hsrc2 _ Cc rfl)) hI hw (s:=s₄) hf ((hE₂.trans hE₄).weaken fun a h=>.inl (.inl h)) hC hJ₄ hQ) ?_;intro r s₅ q_r;refine xae3a3 q_r fun e_0 acc S₅ I₅ q0 hl hC₅ hE₅=>?_;subst e_0;obtain⟨_,t,q⟩:=q0;refine xe2a6e (comp_adopt t (hE₂.old _ fC) (hE₂.old _ fD) hCD ca hC₅ hE₅) fun S' I' e_2 S1 E1 L1 hv oC m hn=>?_;subst e_2;exact⟨m,hn,fun h' hs'=>comp_end S1 E1 L1 hv oC (hE₂.old _ fC) hs' q⟩
 exact codeAny_compStart_at rfl loop (hI.self _ _ _ _ _ hJ₄ loop)
variable{M:Model}{elt:X}
noncomputable def kindIs(sc:Scope)(x:Str)(k:NameKind):Bool:=sc.names.lookup x==some k
noncomputable def isLc(sc:Scope)(nc:NC)(i:Nat)(x:Str):Bool:=nc.lookup x==some i&&(kindIs sc x .local||kindIs sc x .cell||kindIs sc x .free)&&!(x==CLS)&&!(x==("__debug__":Str))&&!(x==("__classdict__":Str))
noncomputable def isGl(sc:Scope)(x:Str):Bool:=kindIs sc x .globalImplicit&&!(x==("__debug__":Str))
noncomputable def isSt(sc:Scope)(nc:NC)(i:Nat)(x:Str):Bool:=nc.lookup x==some i&&(kindIs sc x .local||(kindIs sc x .cell&&!(x==CLS)))
noncomputable def tame:Expr->Bool|.Set ..|.Starred ..|.Slice ..=>false|_=>true
noncomputable def noCall0:Expr->Bool|.Call (.Name _ _) [] [] _=>false|_=>true
noncomputable def glNames:List Str:=["len","abs","min","list","tuple","range","enumerate","sorted"]
noncomputable def Fn.glob:Fn->Bool|.place_of|.order_key|.clause_of|.is_always_true|.order_of|.tidy|.is_tidy|.resolve_on|.draw|.lclause|.world|.lcore|.taken|.rested|.column|.follows|.right=>true|_=>false
noncomputable def Cls.nm:Cls->Str|.heap=>"CoreHeap"|.search=>"Search"|.proof=>"Proof"
variable{nm:Str}
noncomputable def relab(scope:Scope)(sc:Scope):Scope:={scope with names:=scope.names.map fun(n,k)=>if(k==.free&&sc.kind==.function&&sc.names.lookup n==some .cell)then(n,.cell)else(n,k)}
noncomputable def tgNms(ok:Nat->Str->Bool):List Nat->List Expr->Bool|[],[]=>true|i::is,.Name x _::es=>ok i x&&tgNms ok is es|_,_=>false
noncomputable def tgOk(ok:Nat->Str->Bool)(is:List Nat):Expr->Bool
 |.Name x _=>match is with
  |[i]=>ok i x|_=>false
 |.Tuple es _ _=>decide (2<=is.length)&&tgNms ok is es|_=>false
noncomputable def ncIn(sc:Scope)(nc nc':NC)(scope:Scope)(is:List Nat):Bool:=scope.names.all (fun p=>!(p.2==.free)||kindIs sc p.1 .cell||kindIs sc p.1 .free)&&nc'.all (fun p=>is.contains p.2||(nc.lookup p.1==some p.2&&scope.names.lookup p.1==some .free))&&scOk scope&&ncOk nc'
noncomputable def cmpTg(nc':NC)(scope:Scope):Nat->Str->Bool:=fun i x=>nc'.lookup x==some i&&kindIs scope x .local
structure Ann where
 pos:Pos
 k:Nat
 sc:Scope
 st:Stmt
abbrev Rp:=(Nat->Str)×(List Nat->Ann)
noncomputable def Rp.an(r:Rp):Ann:=r.2 []
noncomputable abbrev Rp.ps(r:Rp):Pos:=r.an.pos
noncomputable def Rp.dn(r:Rp)(i:Nat):Rp:=(r.1,fun p=>r.2 (i::p))
noncomputable def Rp.sh(r:Rp)(n:Nat):Rp:=(r.1,fun p=>r.2 (match p with|i::q=>(i+n)::q|[]=>[]))
inductive Nd where|nx(a:Expr)|ns(a:Stmt)
noncomputable def noSt:Stmt:=.Pass default
noncomputable def kOf:Expr->Nat|.Constant _ k _=>k|.Tuple _ k _=>k|_=>0
noncomputable def scOf:Expr->Scope|.ListComp _ _ sc _=>sc|_=>default
noncomputable def Nd.ann:Nd->Ann|.nx a=>⟨a.pos,kOf a,scOf a,noSt⟩|.ns a=>⟨a.pos,0,default,a⟩
noncomputable def oe(l:List (Option Expr)):List Expr:=l.filterMap id
noncomputable def chE:Expr->List Expr|.BoolOp _ vs _=>vs|.BinOp l _ r _=>[l,r]|.UnaryOp _ o _=>[o]|.IfExp a b c _=>[a,b,c]|.Dict ks vs _=>oe ks++vs|.ListComp e gs _ _=>e::gs.flatMap fun g=>g.target::g.iter::g.ifs|.Compare l _ cs _=>l::cs|.Call f es ks _=>f::es++ks.map fun k=>k.value|.Attribute v _ _=>[v]|.Subscript v i _=>[v,i]|.List es _=>es|.Tuple es _ _=>es|.Slice a b c _=>oe [a,b,c]|_=>[]
noncomputable def chS:Stmt->List Nd|.FunctionDef _ _ b _ _ _ _ _ _ _=>b.map .ns|.Return v _=>(oe [v]).map .nx|.Assign ts v _=>ts.map .nx++[.nx v]|.For t i b _ _=>.nx t::.nx i::b.map .ns|.While c b _ _=>.nx c::b.map .ns|.If c a b _=>.nx c::(a.map .ns++b.map .ns)|.Expr e _=>[.nx e]|_=>[]
noncomputable def Nd.ch:Nd->List Nd|.nx a=>(chE a).map .nx|.ns a=>chS a
noncomputable def kwPos:Nd->Nat->Pos|.nx (.Call _ _ ks _),i=>((ks[i]?).map fun k=>k.pos).getD default|_,_=>default
noncomputable def nav:List Nat->Nd->Ann|[],n=>n.ann|i::p,n=>if i≥50 then⟨kwPos n (i-50),0,default,noSt⟩else match n.ch[i]? with|some m=>nav p m|none=>⟨default,0,default,noSt⟩
noncomputable def toNms:List Nat->Rp->List Expr|[],_=>[]|i::is,r=>.Name (r.1 i) (r.dn 0).ps::toNms is (r.sh 1)
noncomputable def toFt:List Nat->Rp->Expr|[i],r=>.Name (r.1 i) r.ps|is,r=>.Tuple (toNms is r) r.an.k r.ps
noncomputable def toNm(x:Str)(r:Rp):Expr:=.Name x r.ps
noncomputable def kName:KeyF->Str|.abs=>"abs"|.fn f=>f.nm
noncomputable def toM1(r:Rp):Expr:=.UnaryOp .USub (.Constant (.int 1) ((r.dn 0).dn 0).an.k ((r.dn 0).dn 0).ps) (r.dn 0).ps
mutual noncomputable def toE:X->Rp->Expr|.lc i,r=>.Name (r.1 i) r.ps|.none,r=>.Constant .none r.an.k r.ps|.tru,r=>.Constant (.bool true) r.an.k r.ps|.fls,r=>.Constant (.bool false) r.an.k r.ps|.int i,r=>.Constant (.int i) r.an.k r.ps|.str s,r=>.Constant (.str s) r.an.k r.ps|.gl x,r=>toNm x r|.at o a,r=>.Attribute (toE o (r.dn 0)) a.nm r.ps|.neg o,r=>.UnaryOp .USub (toE o (r.dn 0)) r.ps|.not o,r=>.UnaryOp .Not (toE o (r.dn 0)) r.ps|.bin op a b,r=>.BinOp (toE a (r.dn 0)) op.op (toE b (r.dn 1)) r.ps|.cmp op a b,r=>.Compare (toE a (r.dn 0)) [op.op] [toE b (r.dn 1)] r.ps|.cmp2 a o m p b,r=>.Compare (toE a (r.dn 0)) [o.op,p.op] [toE m (r.dn 1),toE b (r.dn 2)] r.ps|.and a b,r=>.BoolOp .And [toE a (r.dn 0),toE b (r.dn 1)] r.ps|.or a b,r=>.BoolOp .Or [toE a (r.dn 0),toE b (r.dn 1)] r.ps|.or3 a b c,r=>.BoolOp .Or [toE a (r.dn 0),toE b (r.dn 1),toE c (r.dn 2)] r.ps|.ite c t f,r=>.IfExp (toE c (r.dn 0)) (toE t (r.dn 1)) (toE f (r.dn 2)) r.ps|.tup es,r=>.Tuple (toEs es r) r.an.k r.ps|.lst es,r=>.List (toEs es r) r.ps|.dict0,r=>.Dict [] [] r.ps|.dictS k x k' x',r=>.Dict [some (.Constant (.str k) (r.dn 0).an.k (r.dn 0).ps),some (.Constant (.str k') (r.dn 1).an.k (r.dn 1).ps)] [toE x (r.dn 2),toE x' (r.dn 3)] r.ps|.sub o i,r=>.Subscript (toE o (r.dn 0)) (toE i (r.dn 1)) r.ps|.sliceTo o n,r=>.Subscript (toE o (r.dn 0)) (.Slice none (some (toE n ((r.dn 1).dn 0))) none (r.dn 1).ps) r.ps|.sliceFrom o n,r=>.Subscript (toE o (r.dn 0)) (.Slice (some (toE n ((r.dn 1).dn 0))) none none (r.dn 1).ps) r.ps|.rev o,r=>.Subscript (toE o (r.dn 0)) (.Slice none none (some (toM1 (r.dn 1))) (r.dn 1).ps) r.ps|.last1 o,r=>.Subscript (toE o (r.dn 0)) (.Slice (some (toM1 (r.dn 1))) none none (r.dn 1).ps) r.ps|.call f es,r=>.Call (toNm f.nm (r.dn 0)) (toEs es (r.sh 1)) [] r.ps|.meth o f es,r=>.Call (.Attribute (toE o ((r.dn 0).dn 0)) f.nm (r.dn 0).ps) (toEs es (r.sh 1)) [] r.ps|.new c es,r=>.Call (toNm c.nm (r.dn 0)) (toEs es (r.sh 1)) [] r.ps|.superInit _,r=>.Name "" r.ps|.len o,r=>.Call (toNm "len" (r.dn 0)) [toE o (r.dn 1)] [] r.ps|.abs o,r=>.Call (toNm "abs" (r.dn 0)) [toE o (r.dn 1)] [] r.ps|.min a b,r=>.Call (toNm "min" (r.dn 0)) [toE a (r.dn 1),toE b (r.dn 2)] [] r.ps|.toList o,r=>.Call (toNm "list" (r.dn 0)) [toE o (r.dn 1)] [] r.ps|.toTuple o,r=>.Call (toNm "tuple" (r.dn 0)) [toE o (r.dn 1)] [] r.ps|.sorted o k,r=>.Call (toNm "sorted" (r.dn 0)) [toE o (r.dn 1)] [⟨some "key",toNm (kName k) (r.dn 2),(r.dn 50).ps⟩] r.ps|.sortBy o self,r=>.Call (.Attribute (toE o ((r.dn 0).dn 0)) "sort" (r.dn 0).ps) [] [⟨some "key",.Attribute (toE self ((r.dn 1).dn 0)) "height" (r.dn 1).ps,(r.dn 50).ps⟩,⟨some "reverse",.Constant (.bool true) (r.dn 2).an.k (r.dn 2).ps,(r.dn 51).ps⟩] r.ps|.app o x,r=>.Call (.Attribute (toE o ((r.dn 0).dn 0)) "append" (r.dn 0).ps) [toE x (r.dn 1)] [] r.ps|.pop o,r=>.Call (.Attribute (toE o ((r.dn 0).dn 0)) "pop" (r.dn 0).ps) [] [] r.ps|.ext o x,r=>.Call (.Attribute (toE o ((r.dn 0).dn 0)) "extend" (r.dn 0).ps) [toE x (r.dn 1)] [] r.ps|.setdef o k v,r=>.Call (.Attribute (toE o ((r.dn 0).dn 0)) "setdefault" (r.dn 0).ps) [toE k (r.dn 1),toE v (r.dn 2)] [] r.ps|.comp elt is src test _,r=>.ListComp (toE elt (r.dn 0)) [⟨toFt is (r.dn 1),toSr src (r.dn 2),toEs test (r.sh 3),0⟩] r.an.sc r.ps|.comp2 elt i src j src2 test _,r=>.ListComp (toE elt (r.dn 0)) [⟨toFt [i] (r.dn 1),toSr src (r.dn 2),[],0⟩,⟨toFt [j] (r.dn 3),toE src2 (r.dn 4),toEs test (r.sh 5),0⟩] r.an.sc r.ps noncomputable def toEs:Xs->Rp->List Expr|.nil,_=>[]|.cons x xs,r=>toE x (r.dn 0)::toEs xs (r.sh 1)noncomputable def toSr:Sr->Rp->Expr|.of x,r=>toE x r|.rng a b c n,r=>.Call (toNm "range" (r.dn 0)) (match n with|1=>[toE b (r.dn 1)]|2=>[toE a (r.dn 1),toE b (r.dn 2)]|_=>[toE a (r.dn 1),toE b (r.dn 2),toE c (r.dn 3)]) [] r.ps|.enum o,r=>.Call (toNm "enumerate" (r.dn 0)) [toE o (r.dn 1)] [] r.ps end
noncomputable def xv:X->Option (Int⊕Xs⊕(X×List Nat×Sr×Xs×NC))|.int i=>some (.inl i)|.tup es=>some (.inr (.inl es))|.comp a b c d e=>some (.inr (.inr (a,b,c,d,e)))|_=>none
noncomputable def unv:Int⊕Xs⊕(X×List Nat×Sr×Xs×NC)->X|.inl i=>.int i|.inr (.inl es)=>.tup es|.inr (.inr (a,b,c,d,e))=>.comp a b c d e
theorem xv_of{y:Int⊕Xs⊕(X×List Nat×Sr×Xs×NC)}(h:xv x=some y):x=unv y:=by
 cases x with|int i=>exact zS h▸rfl|tup es=>exact zS h▸rfl|comp a b c d e=>exact zS h▸rfl|_=>exact ns h
noncomputable def isI'(n:Int):Option (Int⊕Xs⊕(X×List Nat×Sr×Xs×NC))->Bool|some (.inl i)=>i==n|_=>false
theorem isI'_of{n:Int}(h:isI' n (xv x)=true):x=.int n:=by
 cases e:xv x with|none=>rw[e]at h;exact ff h|some y=>
  rw[e]at h;cases y with|inl i=>exact(xv_of e).trans (zG X.int (yG.mp h))|inr _=>exact ff h
noncomputable def is0(x:X):Bool:=isI' 0 (xv x)
noncomputable def is1(x:X):Bool:=isI' 1 (xv x)
noncomputable def isTuple:Expr->Bool|.Tuple ..=>true|_=>false
noncomputable def mOk(o:Expr)(r:Rp):Bool:=noCall0 o&&(r.dn 0).ps.endLine==r.ps.line
mutual noncomputable def chkX(sc:Scope)(nc:NC):X->Rp->Bool|.lc i,r=>isLc sc nc i (r.1 i)|.gl x,_=>isGl sc x&&(glbV x).isSome|.at o _,r=>noCall0 (toE o (r.dn 0))&&chkX sc nc o (r.dn 0)|.neg o,r=>chkX sc nc o (r.dn 0)|.not o,r=>chkX sc nc o (r.dn 0)|.bin _ a b,r=>chkX sc nc a (r.dn 0)&&chkX sc nc b (r.dn 1)|.cmp _ a b,r=>chkX sc nc a (r.dn 0)&&chkX sc nc b (r.dn 1)|.cmp2 a _ m _ b,r=>chkX sc nc a (r.dn 0)&&chkX sc nc m (r.dn 1)&&chkX sc nc b (r.dn 2)|.and a b,r=>chkX sc nc a (r.dn 0)&&chkX sc nc b (r.dn 1)|.or a b,r=>chkX sc nc a (r.dn 0)&&chkX sc nc b (r.dn 1)|.or3 a b c,r=>chkX sc nc a (r.dn 0)&&chkX sc nc b (r.dn 1)&&chkX sc nc c (r.dn 2)|.ite c t f,r=>chkX sc nc c (r.dn 0)&&chkX sc nc t (r.dn 1)&&chkX sc nc f (r.dn 2)|.tup es,r=>chkXs sc nc es r|.lst es,r=>chkXs sc nc es r|.dictS _ x _ x',r=>chkX sc nc x (r.dn 2)&&chkX sc nc x' (r.dn 3)|.sub o i,r=>chkX sc nc o (r.dn 0)&&chkX sc nc i (r.dn 1)|.sliceTo o n,r=>chkX sc nc o (r.dn 0)&&chkX sc nc n ((r.dn 1).dn 0)|.sliceFrom o n,r=>chkX sc nc o (r.dn 0)&&chkX sc nc n ((r.dn 1).dn 0)|.rev o,r=>chkX sc nc o (r.dn 0)|.last1 o,r=>chkX sc nc o (r.dn 0)|.call f es,r=>f.glob&&isGl sc f.nm&&chkXs sc nc es (r.sh 1)|.meth o f es,r=>mOk (toE o ((r.dn 0).dn 0)) r&&decide ((toEs es (r.sh 1)).length<30)&&chkX sc nc o ((r.dn 0).dn 0)&&chkXs sc nc es (r.sh 1)|.new c es,r=>isGl sc c.nm&&chkXs sc nc es (r.sh 1)|.superInit _,_=>false|.len o,r=>isGl sc "len"&&chkX sc nc o (r.dn 1)|.abs o,r=>isGl sc "abs"&&chkX sc nc o (r.dn 1)|.min a b,r=>isGl sc "min"&&chkX sc nc a (r.dn 1)&&chkX sc nc b (r.dn 2)|.toList o,r=>isGl sc "list"&&chkX sc nc o (r.dn 1)|.toTuple o,r=>isGl sc "tuple"&&chkX sc nc o (r.dn 1)|.sorted o k,r=>isGl sc "sorted"&&isGl sc (kName k)&&chkX sc nc o (r.dn 1)&&(match k with|.abs=>true|.fn f=>f.glob)|.sortBy o self,r=>mOk (toE o ((r.dn 0).dn 0)) r&&noCall0 (toE self ((r.dn 1).dn 0))&&chkX sc nc o ((r.dn 0).dn 0)&&chkX sc nc self ((r.dn 1).dn 0)|.app o x,r=>mOk (toE o ((r.dn 0).dn 0)) r&&chkX sc nc o ((r.dn 0).dn 0)&&chkX sc nc x (r.dn 1)|.pop o,r=>mOk (toE o ((r.dn 0).dn 0)) r&&chkX sc nc o ((r.dn 0).dn 0)|.ext o x,r=>mOk (toE o ((r.dn 0).dn 0)) r&&chkX sc nc o ((r.dn 0).dn 0)&&chkX sc nc x (r.dn 1)|.setdef o k v,r=>mOk (toE o ((r.dn 0).dn 0)) r&&chkX sc nc o ((r.dn 0).dn 0)&&chkX sc nc k (r.dn 1)&&chkX sc nc v (r.dn 2)|.comp elt is src test nc',r=>ncIn sc nc nc' r.an.sc is&&decide is.Nodup&&tgOk (cmpTg nc' r.an.sc) is (toFt is (r.dn 1))&&chkSr sc nc src (toFt is (r.dn 1)) (r.dn 2)&&chkXs (relab r.an.sc sc) nc' test (r.sh 3)&&decide ((toEs test (r.sh 3)).length<=1)&&chkX (relab r.an.sc sc) nc' elt (r.dn 0)|.comp2 elt i src j src2 test nc',r=>ncIn sc nc nc' r.an.sc [i,j]&&tgOk (cmpTg nc' r.an.sc) [i] (toFt [i] (r.dn 1))&&tgOk (cmpTg nc' r.an.sc) [j] (toFt [j] (r.dn 3))&&chkSr sc nc src (toFt [i] (r.dn 1)) (r.dn 2)&&chkX (relab r.an.sc sc) nc' src2 (r.dn 4)&&chkXs (relab r.an.sc sc) nc' test (r.sh 5)&&decide ((toEs test (r.sh 5)).length<=1)&&chkX (relab r.an.sc sc) nc' elt (r.dn 0)|_,_=>true noncomputable def chkXs(sc:Scope)(nc:NC):Xs->Rp->Bool|.nil,_=>true|.cons x xs,r=>chkX sc nc x (r.dn 0)&&chkXs sc nc xs (r.sh 1)noncomputable def chkSr(sc:Scope)(nc:NC):Sr->Expr->Rp->Bool|.of x,_,r=>chkX sc nc x r|.rng a b c n,_,r=>isGl sc "range"&&(match n with|1=>is0 a&&is1 c&&chkX sc nc b (r.dn 1)|2=>is1 c&&chkX sc nc a (r.dn 1)&&chkX sc nc b (r.dn 2)|_=>chkX sc nc a (r.dn 1)&&chkX sc nc b (r.dn 2)&&chkX sc nc c (r.dn 3))|.enum o,tg,r=>isGl sc "enumerate"&&chkX sc nc o (r.dn 1)&&isTuple tg end
theorem toE_tame:∀(x:X)(r:Rp),tame (toE x r)=true:=by
 intro x r;cases x<;>rfl
theorem chkX_tame{sc:Scope}{r:Rp}(h:chkX sc nc x r=true):tame (toE x r)=true:=toE_tame x r
set_option backward.match.sparseCases true in noncomputable def swF(sc:Scope)(ts:List Expr):Expr->Option Str|.Name id pos=>if kindIs sc id .local&&pos.line==((ts.head?.map (·.pos.line)).getD 0)then some id else none|_=>none
noncomputable def swapB(sc:Scope)(ts vs:List Expr):Bool:=(ts.length==2||ts.length==3)&&vs.length==ts.length&&((ts.filterMap (swF sc ts)).length==ts.length)&&((ts.filterMap (swF sc ts)).eraseDups.length==ts.length)&&!vs.all (foldedForSure 8)&&!vs.all (constantsAlone 8)
noncomputable def isComp:Expr->Bool|.ListComp ..|.SetComp ..|.DictComp ..=>true|_=>false
noncomputable def toTg:Tg->Rp->Expr|.nm i,r=>.Name (r.1 i) r.ps|.at o a,r=>.Attribute (toE o (r.dn 0)) a.nm r.ps|.sub o i,r=>.Subscript (toE o (r.dn 0)) (toE i (r.dn 1)) r.ps|.nms is,r=>.Tuple (toNms is r) r.an.k r.ps|.sub2 e i e' i',r=>.Tuple [.Subscript (toE e ((r.dn 0).dn 0)) (toE i ((r.dn 0).dn 1)) (r.dn 0).ps,.Subscript (toE e' ((r.dn 1).dn 0)) (toE i' ((r.dn 1).dn 1)) (r.dn 1).ps] r.an.k r.ps
noncomputable def Sts.len:Sts->Nat|.nil=>0|.cons _ r=>r.len+1
mutual noncomputable def toS:St->Rp->Stmt|.ex x,r=>.Expr (toE x (r.dn 0)) r.ps|.asg t x,r=>.Assign [toTg t (r.dn 0)] (toE x (r.dn 1)) r.ps|.ifs c a b,r=>.If (toE c (r.dn 0)) (toSs a (r.sh 1)) (toSs b (r.sh (1+a.len))) r.ps|.whl c b,r=>.While (toE c (r.dn 0)) (toSs b (r.sh 1)) [] r.ps|.for_ is src b,r=>.For (toFt is (r.dn 0)) (toSr src (r.dn 1)) (toSs b (r.sh 2)) [] r.ps|.ret x,r=>.Return (some (toE x (r.dn 0))) r.ps|.ret0,r=>.Return none r.ps|.brk,r=>.Break r.ps|.cont,r=>.Continue r.ps|.boom,r=>r.an.st noncomputable def toSs:Sts->Rp->List Stmt|.nil,_=>[]|.cons x xs,r=>toS x (r.dn 0)::toSs xs (r.sh 1)end
noncomputable def tupV:Option (Int⊕Xs⊕(X×List Nat×Sr×Xs×NC))->Option Xs|some (.inr (.inl es))=>some es|_=>none
noncomputable def tupX(x:X):Option Xs:=tupV (xv x)
theorem tupX_of{es:Xs}(h:tupX x=some es):x=.tup es:=by
 unfold tupX at h;cases e:xv x with|none=>rw[e]at h;exact ns h|some y=>
  rw[e]at h;cases y with|inl _=>exact ns h|inr y=>cases y with|inl es'=>exact(xv_of e).trans (zG X.tup (zS h))|inr _=>exact ns h
noncomputable def compV:Option (Int⊕Xs⊕(X×List Nat×Sr×Xs×NC))->Bool|some (.inr (.inr _))=>true|_=>false
noncomputable def isCompX(x:X):Bool:=compV (xv x)
theorem isCompX_of(h:isCompX x=true):∃a b c d e,x=.comp a b c d e:=by
 unfold isCompX at h;cases e:xv x with|none=>rw[e]at h;exact ff h|some y=>
  rw[e]at h;cases y with|inl _=>exact ff h|inr y=>cases y with|inl _=>exact ff h|inr y=>exact⟨_,_,_,_,_,xv_of e⟩
variable{x:Str}
noncomputable def chkTg(sc:Scope)(nc:NC):Tg->X->Rp->Rp->Bool|.nm i,x,t,v=>isSt sc nc i (t.1 i)&&(!isComp (toE x v)||kindIs sc (t.1 i) .cell)|.at o _,_,t,_=>chkX sc nc o (t.dn 0)|.sub o i,_,t,_=>chkX sc nc o (t.dn 0)&&chkX sc nc i (t.dn 1)|.nms is,x,t,v=>decide (2<=is.length)&&decide is.Nodup&&tgNms (isSt sc nc) is (toNms is t)&&(match tupX x with|some es=>swapB sc (toNms is t) (toEs es v)|none=>!isTuple (toE x v))|.sub2 e i e' i',x,t,v=>chkX sc nc e ((t.dn 0).dn 0)&&chkX sc nc i ((t.dn 0).dn 1)&&chkX sc nc e' ((t.dn 1).dn 0)&&chkX sc nc i' ((t.dn 1).dn 1)&&(tupX x).isSome
noncomputable def cmpAsg(sc:Scope)(nc:NC):Tg->X->Rp->Rp->Bool|.nm i,x,t,v=>isCompX x&&(nc.lookup (t.1 i)==some i&&kindIs sc (t.1 i) .local&&t.ps.line==v.ps.line&&!(v.an.sc.names.any fun(n,k)=>n==t.1 i&&(k==.local||k==.cell)))|_,_,_,_=>false
mutual noncomputable def chkS(sc:Scope)(nc:NC):St->Rp->Bool|.ex x,r=>chkX sc nc x (r.dn 0)&&!isComp (toE x (r.dn 0))|.asg t x,r=>chkX sc nc x (r.dn 1)&&(chkTg sc nc t x (r.dn 0) (r.dn 1)||cmpAsg sc nc t x (r.dn 0) (r.dn 1))|.ifs c a b,r=>chkX sc nc c (r.dn 0)&&chkSs sc nc a (r.sh 1)&&chkSs sc nc b (r.sh (1+a.len))|.whl c b,r=>chkX sc nc c (r.dn 0)&&chkSs sc nc b (r.sh 1)|.for_ is src b,r=>tgOk (isSt sc nc) is (toFt is (r.dn 0))&&chkSr sc nc src (toFt is (r.dn 0)) (r.dn 1)&&chkSs sc nc b (r.sh 2)|.ret x,r=>chkX sc nc x (r.dn 0)|_,_=>true noncomputable def chkSs(sc:Scope)(nc:NC):Sts->Rp->Bool|.nil,_=>true|.cons x xs,r=>chkS sc nc x (r.dn 0)&&chkSs sc nc xs (r.sh 1)end
def CkSs(sc:Scope)(nc:NC)(body:Sts)(ss:List Stmt):Prop:=∃r,ss=toSs body r/\chkSs sc nc body r=true
structure Good(B:Base):Prop where
 scrLen:B.scr.length<=1000
 scr:∃items,B.hp.IsList B.scrA items/\∀h I n,VRs h I n items.toList (B.scr.map .int)
 fo:∀f,∃o,B.hp.get? (B.fa f)=some o/\o.data=.func (B.fd f)
 code:∀f,B.hp.CodeRec (B.fd f).code (B.fd f).qualname
 nolim:B.hp.NoLimit
 keepF:∀f,keepIn B.K (.ref (B.fa f))=true
 isF:∀f,isFn B.K (.ref (B.fa f))=true
 bound:∀f,specialIn B.K (.ref (B.fa f)) "__get__"=some (some (.builtin "function.__get__"))/\takesIn B.K (.ref (B.fa f))=some false
 meth:∀c f,methOf c f=true->findIn B.K (.ref (B.ca c)) f.nm=some (some (.ref (B.fa f)))/\plainGet B.K (B.ca c) f.nm=true
 makes:∀c,makesIn B.K (B.ca c)=true/\keepIn B.K (.ref (B.ca c))=true
 init:∀c,findIn B.K (.ref (B.ca c)) "__init__"=some (some (.ref (B.fa (initOf c))))/\typeIn B.K (.ref (B.fa (initOf c)))=some (.type "function")
 glF:∀f,f.glob=true->B.mg f.nm=some (.ref (B.fa f))
 glC:∀c,B.mg c.nm=some (.ref (B.ca c))
 glV:∀x y,glbV x=some y->∃v,B.mg x=some v/\∀h I n,(∀b o,B.hp.get? b=some o->h.get? b=some o)->VR h I n v y
 noB:∀x∈glNames,B.mg x=none
 fglob:∀f,(B.fd f).globals=mainGlobals/\(B.fd f).builtins=builtinsNs
def Calls(B:Base)(d:Nat)(f:Fn)(vs:List Val)(S:AS)(Q:VQ):Prop:=∀A s I vals,Rm A d->SR B s S I->VRs s.heap I S.n vals vs->codeAny (model B.prog B.w) A (.call (.ref (B.fa f)) ⟨vals,[]⟩) (fun r s'=>∃v x S' I',r=.ok (.ret v)/\Q x S'/\SR B s' S' I'/\Ext (fun _=>False) s S I s' S' I'/\VR s'.heap I' S'.n v x) s
noncomputable def WEd(B:Base)(d:Nat):WE:=⟨Calls B d,B.scrA,B.scr⟩
theorem Calls.mono(h:Calls B d f vs S Q)(hq:∀x S',Q x S'->Q' x S'):Calls B d f vs S Q':=fun A s I vals hr hS hv=>codeAny_mono (h A s I vals hr hS hv) fun r s' q=>q.imp fun v q=>q.imp fun x q=>q.imp fun S' q=>q.imp fun I' q=>⟨q.1,hq _ _ q.2.1,q.2.2⟩
theorem Rm.le{d':Nat}(h:Rm A d')(l:d<=d'):Rm A d:=⟨by have :=h.depth;exact lC 0x7064383320414a220008a8a052010064383320414a21000 tT l this,by have :=h.units;exact lC 0x70683233322041443622000e4e40520100683233322041443621000 tT l this,h.handled⟩
theorem Calls.up{d':Nat}(h:Calls B d f vs S Q)(l:d<=d'):Calls B d' f vs S Q:=fun A s I vals hr hS hv=>h A s I vals (hr.le l) hS hv
theorem FC.rm(C:FC B A env d):Rm A d:=⟨by have :=C.depth;exact lB 0x70643833204520414a21000064383320414a21000 tT this,by have :=C.units;exact lB 0x706832333220423320414436210000683233322041443621000 tT this,C.handled⟩
theorem FC.rm2(C:FC B A env d):Rm A.in1.in1 d:=⟨by have :=C.depth;show A.depth+_<=_;exact lB 0x70643833204520414a21000064383320414a21000 tT this,by have :=C.units;show A.units+1+1+_<=_;exact lB 0x70683233322042332041443621000068323332204144362100412041200 tT this,C.handled⟩
theorem EvS.callF{vals:List Value}(C:FC B A env d)(hS:SR B s S I)(hL:LR B nc env s.heap I S μ)(hv:VRs s.heap I S.n vals vs)(p:Calls B d f vs S Q):EvS B A nc env (call (.ref (B.fa f)) vals) μ s S I Q:=by
 refine wpAny_call (codeAny_mono (p A s I vals C.rm hS hv) ?_);intro r s' q_r;refine xe4a4 q_r fun v x S' I' e_4 q a b c=>?_;subst e_4;exact⟨x,S',I',q,a,b.weaken fun _ z=>z.elim,hL.ext hS b fun _ _ z=>z,c⟩
variable{Q:List Val->AS->Prop}{vs:List Value}{f:Value}
theorem tame_star{rest:List Expr}(h:tame e=true):starEach (e::rest) env=(false,eval e env)::starEach rest env:=by
 cases e<;>first|rfl|exact ff h
theorem tame_fold(h:tame e=true)(env:Env)(x:Value):foldedSetIterable e env x=pure x:=by
 cases e<;>first|rfl|exact ff h
theorem tame_behind{op:CmpOp}(h:tame e=true):behindInMarks op e=false:=by
 cases e<;>first|rfl|exact ff h
theorem base_of{w:Sem Value}(h:noCall0 o=true):attributeBase o nm env w=w:=by
 cases o with
 |Call f as ks p=>cases f with
  |Name x q=>cases as with
   |nil=>cases ks with
    |nil=>exact ff h|cons=>rfl
   |cons=>rfl
  |_=>rfl
 |_=>rfl
def EvsJ(B:Base)(A:Around)(nc:NC)(env:Env)(t:Sem (List Value))(μ:Mu)(S:AS)(Q:List Val->AS->Prop):Prop:=∀s I,SR B s S I->LR B nc env s.heap I S μ->wpAny (model B.prog B.w) A t (fun vs s'=>∃xs S' I',Q xs S'/\SR B s' S' I'/\Ext (We env) s S I s' S' I'/\LR B nc env s'.heap I' S' μ/\VRs s'.heap I' S'.n vs xs) (fun _ _=>False) s
theorem evs_nil(q:Q [] S):EvsJ B A nc env (spliced (backTo pos (starEach [] env))) μ S Q:=fun s I hS hL=>wpAny_items_nil ⟨[],S,I,q,hS,.refl,hL,.nil⟩
theorem evs_cons{rest:List Expr}(ht:tame e=true)(h:EvJ B A nc env (eval e env) μ S fun v S=>EvsJ B A nc env (spliced (backTo pos (starEach rest env))) μ S fun vs S=>Q (v::vs) S):EvsJ B A nc env (spliced (backTo pos (starEach (e::rest) env))) μ S Q:=by
 intro s I hS hL;refine wpAny_items_cons (zB (h s I hS hL) ?_ fun _ _ z=>z) (tame_star ht);intro v s₁ q_r;obtain⟨x,S₁,I₁,q,hS₁,hE₁,hL₁,hv⟩:=q_r;refine zB (q s₁ I₁ hS₁ hL₁) ?_ fun _ _ z=>z;intro vs s₂ q_r;refine xe3a4 q_r fun xs S₂ I₂ q hS₂ hE₂ hL₂ hvs=>?_;exact⟨x::xs,S₂,I₂,q,hS₂,hE₁.trans hE₂,hL₂,.cons (hv.up hE₂.up) hvs⟩
variable{Q:VQ}
theorem plain_args:∀{es:List Expr},(∀e∈es,tame e=true)->(backTo pos (starEach es env)).any (·.1)=false:=by
 intro v;induction v with
 |nil=>
  intro _;exact rfl|cons e r ih=>
  intro h;rw[tame_star (h e (by simp))];show(false||(backTo pos (starEach r env)).any (·.1))=false;rw[ih fun x hx=>h x (by simp[hx])];rfl
theorem evalArgs_xs{P:Args->Shared->Prop}(ht:∀e∈es,tame e=true)(h:wpAny (model B.prog B.w) A (spliced (backTo pos (starEach es env))) (fun vs s'=>P ⟨vs,[]⟩ s') (fun _ _=>False) s):wpAny (model B.prog B.w) A (evalArgs f true (backTo pos (starEach es env)) []) P (fun _ _=>False) s:=by
 cases es with|nil=>
  have h':wpAny (model B.prog B.w) A (spliced []) (fun vs s'=>P ⟨vs,[]⟩ s') (fun _ _=>False) s:=h;unfold evalArgs;show wpAny (model B.prog B.w) A (spliced []>>=_) _ _ s;refine zC (zB h' (fun vs s' h'=>?_) fun _ _ x=>x);refine zC (zR ?_);refine wpAny_holding ?_;exact zC (zR (zC (zR (zR h'))))|cons e r=>
  rw[tame_star (ht e (by simp))]at h⊢;exact Calls.evalArgs_plain h
theorem callFn_xs{P:Value->Shared->Prop}(hk:keepIn B.K f=true)(ht:∀e∈es,tame e=true)(h:wpAny (model B.prog B.w) A (spliced (backTo pos (starEach es env))) (fun vs s₁=>B.K.In s₁.heap/\wpAny (model B.prog B.w) A (call f (first++vs)) P (fun _ _=>False) s₁) (fun _ _=>False) s):wpAny (model B.prog B.w) A (callWith pos f first (backTo pos (starEach es env)) []) P (fun _ _=>False) s:=callWith_of (by rw[plain_args ht];rfl) (keeps_K hk) (evalArgs_xs ht h)
theorem callB_xs{id:String}{P:Value->Shared->Prop}(ht:∀e∈es,tame e=true)(h:wpAny (model B.prog B.w) A (spliced (backTo pos (starEach es env))) (fun vs s₁=>wpAny (model B.prog B.w) A (call (.builtin id) (first++vs)) P (fun _ _=>False) s₁) (fun _ _=>False) s):wpAny (model B.prog B.w) A (callWith pos (.builtin id) first (backTo pos (starEach es env)) []) P (fun _ _=>False) s:=Calls.callWith_builtin (plain_args ht) (evalArgs_xs ht h)
theorem callT_xs{T:String}{P:Value->Shared->Prop}(ht:∀e∈es,tame e=true)(h:wpAny (model B.prog B.w) A (spliced (backTo pos (starEach es env))) (fun vs s₁=>wpAny (model B.prog B.w) A (call (.type T) (first++vs)) P (fun _ _=>False) s₁) (fun _ _=>False) s):wpAny (model B.prog B.w) A (callWith pos (.type T) first (backTo pos (starEach es env)) []) P (fun _ _=>False) s:=PyProof.Rows.callWith_type (plain_args ht) (evalArgs_xs ht h)
theorem eval_Call_Name{P:Value->Shared->Prop}(h:wpAny (model B.prog B.w) A (eval (.Name x p) env) (fun f s₁=>wpAny (model B.prog B.w) A (callWith pos f [] (backTo pos (starEach es env)) []) P (fun _ _=>False) s₁) (fun _ _=>False) s):wpAny (model B.prog B.w) A (eval (.Call (.Name x p) es [] pos) env) P (fun _ _=>False) s:=by
 show wpAny _ A (do callWith pos (<-eval (.Name x p) env) [] (backTo pos (starEach es env)) (backToKw pos (keywordEach [] env))) _ _ s;exact zC h
theorem method_xs{P:Value->Shared->Prop}(hb:noCall0 o=true)(ht:∀e∈es,tame e=true)(hl:es.length<30)(hp:(apos.endLine==pos.line)=true)(h:wpAny (model B.prog B.w) A (eval o env) (fun ov s₁=>∀pl,wpAny (model B.prog B.w) A (getMethod ov name pl) (fun fx s₂=>wpAny (model B.prog B.w) A (callWith pos fx.1 fx.2 (backTo pos (starEach es env)) []) P (fun _ _=>False) s₂) (fun _ _=>False) s₁) (fun _ _=>False) s):wpAny (model B.prog B.w) A (eval (.Call (.Attribute o name apos) es [] pos) env) P (fun _ _=>False) s:=by
 show wpAny _ A (do
  let ov<-attributeBase o name env (eval o env);standAt apos.atName;methodCall o name apos pos env ov (es.length+0) (backTo pos (starEach es env)) []) _ _ s;rw[base_of hb];have hf:methodCallForm (es.length+0) (backTo pos (starEach es env)) []=true:=by
  unfold methodCallForm;have h1:(backTo pos (starEach es env)).all (fun x=>!x.1)=true:=by
   rw[yL];intro x hx;have :=List.any_eq_false.mp (plain_args (pos:=pos) (env:=env) ht) x hx;simpa using this
  rw[h1];simp;exact lA 0x716e3120016e31200 tT hl
 refine zC (zB h (fun ov s₁ h₁=>zC (wpAny_standAt ?_)) fun _ _ z=>z);unfold methodCall;rw[hf];refine zC (wpAny_holding ?_);show wpAny _ A (getMethod ov name _) _ _ s₁;refine zB (h₁ _) (fun fx s₂ h₂=>?_) fun _ _ z=>z;obtain⟨f,first⟩:=fx;dsimp only;have hq:methodCallPos true o env apos pos=pure pos:=by
  unfold methodCallPos;rw[hp];rfl
 rw[hq];exact zC (zR h₂)
theorem methodKw_xs{P:Value->Shared->Prop}(hb:noCall0 o=true)(hl:kws.length<20)(hn:kws.all (fun k=>k.arg.isSome)=true)(hp:(apos.endLine==pos.line)=true)(h:wpAny (model B.prog B.w) A (eval o env) (fun ov s₁=>∀pl,wpAny (model B.prog B.w) A (getMethod ov name pl) (fun fx s₂=>wpAny (model B.prog B.w) A (callWith pos fx.1 fx.2 [] (backToKw pos (keywordEach kws env))) P (fun _ _=>False) s₂) (fun _ _=>False) s₁) (fun _ _=>False) s):wpAny (model B.prog B.w) A (eval (.Call (.Attribute o name apos) [] kws pos) env) P (fun _ _=>False) s:=by
 show wpAny _ A (do
  let ov<-attributeBase o name env (eval o env);standAt apos.atName;methodCall o name apos pos env ov (0+kws.length) [] (backToKw pos (keywordEach kws env))) _ _ s;rw[base_of hb];have hk:∀ks:List Keyword,ks.all (fun k=>k.arg.isSome)=true->(backToKw pos (keywordEach ks env)).all (·.1.isSome)=true:=by
  intro ks;induction ks with
  |nil=>intro _;rfl|cons k r ih=>
   intro hk;rw[List.all_cons,yN]at hk;obtain⟨n,v,p⟩:=k;cases n with|none=>simp at hk|some n=>
    show(true&&(backToKw pos (keywordEach r env)).all (·.1.isSome))=true;rw[ih hk.2];rfl
 have hf:methodCallForm (0+kws.length) [] (backToKw pos (keywordEach kws env))=true:=by
  unfold methodCallForm;rw[hk kws hn];simp;split<;>omega
 refine zC (zB h (fun ov s₁ h₁=>zC (wpAny_standAt ?_)) fun _ _ z=>z);unfold methodCall;rw[hf];refine zC (wpAny_holding ?_);show wpAny _ A (getMethod ov name _) _ _ s₁;refine zB (h₁ _) (fun fx s₂ h₂=>?_) fun _ _ z=>z;obtain⟨f,first⟩:=fx;dsimp only;have hq:methodCallPos true o env apos pos=pure pos:=by
  unfold methodCallPos;rw[hp];rfl
 rw[hq];exact zC (zR h₂)
theorem ev_at{a:At}(hn:(a.nm==nm)=true)(hb:noCall0 o=true)(h:EvJ B A nc env (eval o env) μ S fun v S=>attrGet v a S Q):EvJ B A nc env (eval (.Attribute o nm pos) env) μ S Q:=by
 intro s I hS hL;rw[<-yG.mp hn];show wpAny _ A (do
  let o'<-attributeBase o a.nm env (eval o env);standAt pos.atName let r<-holding [o'] (getAttr o' a.nm true);letTemporaryGo o o' r;pure r) _ _ s;rw[base_of hb];refine zC (ev1 (f:=fun o'=>(do standAt pos.atName;let r<-holding [o'] (getAttr o' a.nm true);letTemporaryGo o o' r;pure r)) h (fun v x s S I hS hL hv p=>?_) hS hL);refine zC (wpAny_standAt (zC (wpAny_holding (zB (EvS.attr hS hL hv p) (fun r s₁ h₁=>?_) fun _ _ z=>z))));exact zC (wpAny_letTemporaryGo (zR h₁))
theorem list_get_lookup:typeLookup (.type "list") "__getitem__"=pure (some (.builtin "list.__getitem__")):=slot_list_getitem.lookup
theorem tuple_get_lookup:typeLookup (.type "tuple") "__getitem__"=pure (some (.builtin "tuple.__getitem__")):=slot_tuple_getitem.lookup
theorem tame_subscripted{slice:Expr}{o i:Value}(h:tame slice=true):subscripted slice false o i=operate [o,i] (getItem o i):=by
 cases slice<;>first|rfl|exact ff h
theorem ev_sub{i:Expr}(ht:tame i=true)(h:EvJ B A nc env (eval o env) μ S fun x S=>EvJ B A nc env (eval i env) μ S fun y S=>itemGet x y S Q):EvJ B A nc env (eval (.Subscript o i pos) env) μ S Q:=by
 intro s I hS hL;refine Subscript_ (ev2 (R:=fun _ _ q=>q) h (fun v w x y s S I hS hL hv hw p=>?_) hS hL);have g:=EvS.item (B:=B) (A:=A) (nc:=nc) (env:=env) hS hL hv hw p;have hs:=tame_subscripted (o:=v) (i:=w) ht;clear hw;rcases p with⟨rfl,rfl,_⟩|⟨e,rfl,_⟩|⟨rfl,rfl,e,hz,q⟩
 .refine xe2a2 hv.tup_inv fun _ _ e_2 e _=>?_;clear hv;subst e_2;exact tail_any (isTup_of e).typeIs tuple_get_lookup g hs
 .refine xe2a2e3a3 (listAt_of hS hv e) fun t1 n1 h1 k1 a1 i1 e1 e_7 w1 g1 r1=>?_;clear hv;subst e_7;exact tail_any (isList_of g1).typeIs list_get_lookup g hs
 .obtain⟨rfl,_⟩:=hv.loc_inv;refine xaea (hS.obj _ _ _ e) fun h1 ps hd hp=>?_;exact tail_any (h1▸hd:s.heap.DictOf (PySem.strKind B.prog B.w) (I _ _).id ps).typeIs slot_dict_getitem.lookup g hs
theorem ev_slice{lo hi st:Option Expr}{P:Val->AS->Prop}(he:EvJ B A nc env (eval e env) μ S P)(h:∀v x s S I,SR B s S I->LR B nc env s.heap I S μ->VR s.heap I S.n v x->P x S->wpAny (model B.prog B.w) A (evalPart lo env) (fun l s₁=>wpAny (model B.prog B.w) A (evalPart hi env) (fun u s₂=>wpAny (model B.prog B.w) A (evalPart st env) (fun k s₃=>∃a items xs n m j S' I',v=.ref a/\s₃.heap.IsList a items/\items.size<=1000/\IsPart l n/\IsPart u m/\IsPart k j/\j≠some 0/\SR B s₃ S' I'/\Ext (We env) s S I s₃ S' I'/\LR B nc env s₃.heap I' S' μ/\VRs s₃.heap I' S'.n (slicePick items n m j).toList xs/\∃t,Q (.loc t S'.n) (S'.alloc t (.list xs))) (fun _ _=>False) s₂) (fun _ _=>False) s₁) (fun _ _=>False) s):EvJ B A nc env (eval (.Subscript e (.Slice lo hi st p) pos) env) μ S Q:=by
 intro s I hS hL;refine Subscript_ (zB (he s I hS hL) ?_ fun _ _ z=>z);rintro v s₁⟨x,S₁,I₁,q,hS₁,hE₁,hL₁,hv⟩;refine wpAny_Slice (zB (h v x s₁ S₁ I₁ hS₁ hL₁ hv q) (fun l s₂ h₂=>zB h₂ (fun u s₃ h₃=>zB h₃ (fun k s₄ h₄=>?_) fun _ _ z=>z) fun _ _ z=>z) fun _ _ z=>z);refine xe8a11e h₄ fun a items xs n m j S' I' e_8 g hz pn pm pj hj hS' hE' hL' hx t q=>?_;clear h hv h₂ h₃ h₄;subst e_8;have g':(s₄.heap.push {cls:=.type "slice",data:=.fields #[l,u,k]}).IsList a items:=g.push _;have hT:Shared.TypeIs {s₄ with heap:=s₄.heap.push {cls:=.type "slice",data:=.fields #[l,u,k]}} (.ref a) "list":=g'.typeIs;have core:wpAny (model B.prog B.w) A (getItem (.ref a) (.ref s₄.heap.objs.size)) (EvQ B nc env μ s S I Q) (fun _ _=>False) {s₄ with heap:=s₄.heap.push {cls:=.type "slice",data:=.fields #[l,u,k]}}:=by
  refine wpAny_getItem_list_slice g' (Heap.IsSliceOf.new ..) pn pm pj hj ?_ (by rw[yW];exact lA 0x70683e33200060303030303031200 tT hz);obtain⟨mm,cm,hF,hM⟩:=hL';refine xa3 (grow hS' hF hM (push_keep (o:={cls:=.type "slice",data:=.fields #[l,u,k]})) s₄.toks) fun S2 E2 F2 M2=>?_;have r:=EvQ.listG (B:=B) (nc:=nc) (env:=env) (Q:=Q) (k:=s₄.toks) (h':=((s₄.heap.push {cls:=.type "slice",data:=.fields #[l,u,k]}).push {cls:=.type "list",data:=.seq (slicePick items n m j)})) (e:=0) S2 ⟨mm,cm,F2,M2⟩ (size_none _) (hx.up E2.up) push_keep (xB _ rfl) q;obtain⟨y,S3,I3,q3,a3,b3,c3,d3⟩:=r;exact⟨y,S3,I3,q3,a3,(hE₁.trans hE').trans (E2.trans b3),c3,d3⟩
 cases st with|none=>exact tail_any hT list_get_lookup core (ops:=[.ref s₄.heap.objs.size,.ref a]) rfl|some st=>exact tail_any hT list_get_lookup core (ops:=[.ref a,.ref s₄.heap.objs.size]) rfl
theorem pick_to(l:List Value)(i:Int)(h:0<=i):kms_pick l none (some i)=l.take i.toNat:=by
 unfold kms_pick kms_lo kms_hi;simp only[zN (show¬i<0 by exact fun e=>lZ 0x74602013601028080650202 tT h e),List.drop_zero,Nat.sub_zero];rw[List.take_eq_take_iff];simp
theorem pick_from(l:List Value)(i:Int)(h:0<=i):kms_pick l (some i) none=l.drop i.toNat:=by
 unfold kms_pick kms_lo kms_hi;simp only[zN (show¬i<0 by exact fun e=>lZ 0x74602013601028080650202 tT h e)];rcases Nat.le_total i.toNat l.length with q|q;.rw[Nat.min_eq_left q,List.take_of_length_le (by rw[List.length_drop];exact lA 0x7060000 tT)]
 .rw[Nat.min_eq_right q,Nat.sub_self,List.drop_eq_nil_of_le q];rfl
theorem pick_last(l:List Value):kms_pick l (some (-1)) none=l.drop (l.length-1):=by
 unfold kms_pick kms_lo kms_hi;simp only[zU (show(-1:Int)<0 by decide),Int.neg_neg];rw[List.take_of_length_le (by rw[List.length_drop];simp)];simp
theorem part_none{P:Value->Shared->Prop}(h:P .none s):wpAny M A (evalPart none env) P E s:=zR h
def slOf(B:Base)(o:Val)(S:AS)(xs:List Val):Prop:=(o=.raw (.ref B.scrA)/\xs=B.scr.map .int/\xs.length<=1000)\/(S.listAt o=some xs/\xs.length<=1000)
theorem slOf_get{x:Val}(G:Good B)(hS:SR B s S I)(hv:VR s.heap I S.n v x)(h:slOf B x S xs):∃a items,v=.ref a/\s.heap.IsList a items/\items.size<=1000/\VRs s.heap I S.n items.toList xs:=by
 rcases h with⟨rfl,rfl,hl⟩|⟨e,hl⟩
 .cases hv;refine xea G.scr fun items q_1 r=>?_;refine xea2 q_1 fun ob g g1 g2=>?_;have :=(r s.heap I S.n).length;simp only[yF]at this;exact⟨_,items,rfl,⟨ob,hS.keep _ _ g,g1,g2⟩,by exact lB 0x72610000683e332100683e33200 tT hl this,r _ _ _⟩
 .refine xe2a2e3a3 (listAt_of hS hv e) fun t1 n1 e_2 k1 a1 i1 e1 e_7 w1 g1 r1=>?_;subst e_2;subst e_7;have :=r1.length;simp only[yF]at this;exact⟨_,_,rfl,isList_of g1,by exact lB 0x72610000683e332100683e33200 tT hl this,r1⟩
variable{v:List Value}
theorem ev_sliceTo{n:Expr}(G:Good B)(h:EvJ B A nc env (eval e env) μ S fun o S=>EvJ B A nc env (eval n env) μ S fun k S=>∃i xs,k=.int i/\0<=i/\slOf B o S xs/\∃t,Q (.loc t S.n) (S.alloc t (.list (xs.take i.toNat)))):EvJ B A nc env (eval (.Subscript e (.Slice none (some n) none p) pos) env) μ S Q:=by
 refine ev_slice h fun v x s S I hS hL hv q=>part_none (zB (q s I hS hL) ?_ fun _ _ z=>z);rintro k s₁⟨y,S₁,I₁,⟨i,xs,rfl,hi,hs,t,q⟩,hS₁,hE₁,hL₁,hk⟩;refine part_none ?_;refine xe2a3 (slOf_get G hS₁ (hv.up hE₁.up) hs) fun a items e_2 g hz r=>?_;clear hv;subst e_2;obtain⟨tk,rfl⟩:=VR.int_inv hk;refine⟨a,items,xs.take i.toNat,none,some i,none,S₁,I₁,rfl,g,hz,.none,.int _ _,.none,by simp,hS₁,hE₁,hL₁,?_,t,q⟩;rw[kms_pick_eq,pick_to _ _ hi];exact r.take _
theorem ev_sliceFrom{n:Expr}(G:Good B)(h:EvJ B A nc env (eval e env) μ S fun o S=>EvJ B A nc env (eval n env) μ S fun k S=>∃i xs,k=.int i/\0<=i/\slOf B o S xs/\∃t,Q (.loc t S.n) (S.alloc t (.list (xs.drop i.toNat)))):EvJ B A nc env (eval (.Subscript e (.Slice (some n) none none p) pos) env) μ S Q:=by
 refine ev_slice h fun v x s S I hS hL hv q=>zB (q s I hS hL) ?_ fun _ _ z=>z;rintro k s₁⟨y,S₁,I₁,⟨i,xs,rfl,hi,hs,t,q⟩,hS₁,hE₁,hL₁,hk⟩;refine part_none (part_none ?_);refine xe2a3 (slOf_get G hS₁ (hv.up hE₁.up) hs) fun a items e_2 g hz r=>?_;clear hv;subst e_2;obtain⟨tk,rfl⟩:=VR.int_inv hk;refine⟨a,items,xs.drop i.toNat,some i,none,none,S₁,I₁,rfl,g,hz,.int _ _,.none,.none,by simp,hS₁,hE₁,hL₁,?_,t,q⟩;rw[kms_pick_eq,pick_from _ _ hi];exact r.drop _
theorem ev_minus1{i:Int}(hi:(i==1)=true):EvJ B A nc env (eval (.UnaryOp .USub (.Constant (.int i) k p) p') env) μ S fun v S'=>v=.int (-1)/\S'=S:=ev_neg (ev_int (by rw[yG.mp hi];exact⟨rfl,rfl⟩))
theorem ev_rev{i:Int}{p2:Pos}(G:Good B)(hi:(i==1)=true)(h:EvJ B A nc env (eval e env) μ S fun o S=>∃xs,slOf B o S xs/\∃t,Q (.loc t S.n) (S.alloc t (.list xs.reverse))):EvJ B A nc env (eval (.Subscript e (.Slice none none (some (.UnaryOp .USub (.Constant (.int i) k p1) p2)) p) pos) env) μ S Q:=by
 refine ev_slice h fun v x s S I hS hL hv q=>part_none (part_none (zB (ev_minus1 hi s I hS hL) ?_ fun _ _ z=>z));clear hS hL;rintro k s₁⟨y,S₁,I₁,⟨rfl,rfl⟩,hS₁,hE₁,hL₁,hk⟩;refine xeae q fun xs hs t q=>?_;refine xe2a3 (slOf_get G hS₁ (hv.up hE₁.up) hs) fun a items e_2 g hz r=>?_;clear hv;subst e_2;obtain⟨tk,rfl⟩:=VR.int_inv hk;refine⟨a,items,xs.reverse,none,none,some (-1),_,I₁,rfl,g,hz,.none,.none,.int _ _,by simp,hS₁,hE₁,hL₁,?_,t,q⟩;rw[krv_pick];exact r.reverse
theorem ev_last1{i:Int}{p2:Pos}(G:Good B)(hi:(i==1)=true)(h:EvJ B A nc env (eval e env) μ S fun o S=>∃xs,slOf B o S xs/\∃t,Q (.loc t S.n) (S.alloc t (.list (xs.drop (xs.length-1))))):EvJ B A nc env (eval (.Subscript e (.Slice (some (.UnaryOp .USub (.Constant (.int i) k p1) p2)) none none p) pos) env) μ S Q:=by
 refine ev_slice h fun v x s S I hS hL hv q=>zB (ev_minus1 hi s I hS hL) ?_ fun _ _ z=>z;clear hS hL;rintro k s₁⟨y,S₁,I₁,⟨rfl,rfl⟩,hS₁,hE₁,hL₁,hk⟩;refine part_none (part_none ?_);refine xeae q fun xs hs t q=>?_;refine xe2a3 (slOf_get G hS₁ (hv.up hE₁.up) hs) fun a items e_2 g hz r=>?_;clear hv;subst e_2;obtain⟨tk,rfl⟩:=VR.int_inv hk;refine⟨a,items,xs.drop (xs.length-1),some (-1),none,none,_,I₁,rfl,g,hz,.int _ _,.none,.none,by simp,hS₁,hE₁,hL₁,?_,t,q⟩;rw[kms_pick_eq,pick_last,<-r.length];exact r.drop _
theorem ev_fn{f:Fn}(G:Good B)(C:FC B A env d)(hf:f.glob=true)(hx:x=f.nm)(hk:env.kindOf x=some .globalImplicit)(hd:(x==("__debug__":Str))=false)(ht:∀e∈es,tame e=true)(h:EvsJ B A nc env (spliced (backTo pos (starEach es env))) μ S fun vs S=>Calls B d f vs S Q):EvJ B A nc env (eval (.Call (.Name x p) es [] pos) env) μ S Q:=by
 intro s I hS hL;subst hx;refine eval_Call_Name (Calls.Name_function_global C.kind hk (Calls.loadGlobal_global (by rw[C.glob];exact B.T.g.keeps hS.keep) (G.glF f hf) ?_) hd);refine callFn_xs (G.keepF f) ht (zB (h s I hS hL) ?_ fun _ _ z=>z);intro vs s₁ q_r;refine xe3a4 q_r fun xs S₁ I₁ q hS₁ hE₁ hL₁ hv=>?_;exact⟨hS₁.in_,EvS.tail hE₁ (EvS.callF C hS₁ hL₁ hv q)⟩
set_option tactic.hygienic true in theorem ev_meth{f:Fn}(G:Good B)(C:FC B A env d)(hn:nm=f.nm)(hb:noCall0 o=true)(ht:∀e∈es,tame e=true)(hl:es.length<30)(hp:(apos.endLine==pos.line)=true)(hat:∀(c:Cls)(a:At),methOf c f=true->a.nm=f.nm->f.at=some a)(h:EvJ B A nc env (eval o env) μ S fun o S=>isInst o f S/\EvsJ B A nc env (spliced (backTo pos (starEach es env))) μ S fun vs S=>Calls B d f (o::vs) S Q):EvJ B A nc env (eval (.Call (.Attribute o nm apos) es [] pos) env) μ S Q:=by
 intro s I hS hL;subst hn;refine method_xs hb ht hl hp (zB (h s I hS hL) ?_ fun _ _ z=>z);intro v s₁ q_r pl;obtain⟨x,S₁,I₁,⟨hi,q⟩,hS₁,hE₁,hL₁,hv⟩:=q_r;obtain@⟨t,n,c,at_,eo,e,hc,ha⟩:=hi;subst eo;refine xe2a3 (inst_at hS₁ hv e rfl) fun es' ep e_2 J hcell hkr=>?_;subst e_2;obtain⟨mm,cm,hF,hM⟩:=id hL₁;obtain⟨g1,g2⟩:=G.meth c f hc;refine method_inst (hS₁.Fr hF) B.inK J g2 g1 (G.isF f) (hkr.free fun a hz w=>hz (ha a (hat c a hc w))) ?_;refine callFn_xs (G.keepF f) ht (zB (q s₁ I₁ hS₁ hL₁) ?_ fun _ _ z=>z);intro vs s₂ q_r;refine xe3a4 q_r fun xs S₂ I₂ q hS₂ hE₂ hL₂ hvs=>?_;exact⟨hS₂.in_,EvS.tail (hE₁.trans hE₂) (EvS.callF C hS₂ hL₂ (.cons (hv.up hE₂.up) hvs) q)⟩
theorem ev_new(G:Good B)(C:FC B A env d)(hx:x=c.nm)(hk:env.kindOf x=some .globalImplicit)(hd:(x==("__debug__":Str))=false)(ht:∀e∈es,tame e=true)(h:EvsJ B A nc env (spliced (backTo pos (starEach es env))) μ S fun vs S=>∃t,Calls B d (initOf c) (.loc t S.n::vs) (S.alloc t (.inst c fun _=>none)) fun r S'=>r=.none/\Q (.loc t S.n) S'):EvJ B A nc env (eval (.Call (.Name x p) es [] pos) env) μ S Q:=by
 intro s I hS hL;subst hx;refine eval_Call_Name (Calls.Name_function_global C.kind hk (Calls.loadGlobal_global (by rw[C.glob];exact B.T.g.keeps hS.keep) (G.glC c) ?_) hd);refine callFn_xs (G.makes c).2 ht (zB (h s I hS hL) ?_ fun _ _ z=>z);intro vs s₁ q_r;refine xe3a4 q_r fun xs S₁ I₁ q_3 hS₁ hE₁ hL₁ hv=>?_;obtain⟨t,q⟩:=q_3;refine⟨hS₁.in_,EvS.tail hE₁ (wpAny_call ?_)⟩;clear hE₁;obtain⟨mm,cm,hF,hM⟩:=id hL₁;have X:=hS₁.in_;clear hL₁;obtain⟨hh,g,dr,tk,os⟩:=s₁;refine make_core (makes_of X (G.makes c).1) (looks_findIn X (G.init c).1) (fun self=>bind_fn X self (G.init c).2) (.inl rfl) ?_;have hk:∀b o,hh.get? b=some o->((hh.push emptyDict).push (instObj (B.ca c) hh.objs.size)).get? b=some o:=fun b o e=>push_keep _ _ (push_keep _ _ e);refine xa3 (grow (s:=⟨hh,g,dr,tk,os⟩) hS₁ hF hM hk tk) fun S2 E2 F2 M2=>?_;have fx:hh.get? hh.objs.size=none:=size_none _;have nb:B.hp.get? hh.objs.size=none:=by
  cases z:B.hp.get? hh.objs.size with|none=>rfl|some o=>have :=hS₁.keep _ _ z;rw[show(⟨hh,g,dr,tk,os⟩:Shared).heap.get? hh.objs.size=none from fx]at this;cases this
 have nl:hh.objs.size≠env.locals:=by
  intro q;refine xe3a hF.ns fun o _ _ ho _=>?_;rw[<-q,show(⟨hh,g,dr,tk,os⟩:Shared).heap.get? hh.objs.size=none from fx]at ho;cases ho
 have off:∀t v o',S₁.H t=some (v,o')->(I₁ t v).cell≠hh.objs.size:=fun t v o' e q=>by
  refine xea (hS₁.shape e) fun ob h _=>?_;rw[q,show(⟨hh,g,dr,tk,os⟩:Shared).heap.get? hh.objs.size=none from fx]at h;cases h
 have g1:((hh.push emptyDict).push (instObj (B.ca c) hh.objs.size)).get? hh.objs.size=some emptyDict:=push_keep _ _ (xB _ rfl);have g2:((hh.push emptyDict).push (instObj (B.ca c) hh.objs.size)).get? (hh.objs.size+1)=some (instObj (B.ca c) hh.objs.size):=by
  have :=xB (hh.push emptyDict) (o:=instObj (B.ca c) hh.objs.size) rfl;rwa[Heap.size_push]at this
 have S3:=S2.adopt (t:=t) (p:=⟨hh.objs.size+1,hh.objs.size⟩) (o:=.inst c fun _=>none) off nb ⟨g2,[],0,g1,[],rfl,List.nodup_nil,(by intro a ha;simp at ha),(by intro x hx;simp at hx)⟩;have E3:=E2.adopt (t:=t) (p:=⟨hh.objs.size+1,hh.objs.size⟩) (o:=.inst c fun _=>none) S2.lt fx;have V:=VR.loc (h:=(hh.push emptyDict).push (instObj (B.ca c) hh.objs.size)) (I:=I₁.set t S₁.n ⟨hh.objs.size+1,hh.objs.size⟩) (n:=S₁.n+1) (t:=t) (v:=S₁.n) (xA _);rw[Interp.set_self]at V;have rm:Rm (A.under (.builtin "type.__call__" ⟨.ref (B.ca c)::vs,[]⟩)) d:=⟨by
  have :=C.depth;show A.depth+1+_<=_;exact lB 0x70643833204520414a21000064383320414a210041200 tT this,by
  have :=C.units;show A.units+1+_<=_;exact lB 0x7068323332204233204144362100006832333220414436210041200 tT this,C.handled⟩;refine codeAny_mono (q _ _ _ _ rm S3 (.cons V ((hv.up E2.up).up .set))) ?_;intro r s₂ q_r;refine xe4a4 q_r fun v y S₄ I₄ e_4 q_5 hS₄ hE₄ hv₄=>?_;subst e_4;obtain⟨rfl,q⟩:=q_5;cases hv₄;refine⟨rfl,_,S₄,I₄,q,hS₄,E3.trans (hE₄.weaken fun _ z=>z.elim),?_,V.up hE₄.up⟩;exact LR.ext S3 ⟨mm,cm,F2.adopt S2.lt nl,M2.up .set⟩ hE₄ fun _ _ z=>z
variable{d:Addr}{es:Array DictEntry}{x:List Val}
noncomputable def runT(lt:Nat->Nat->Bool):KasT α->α|.ret a=>a|.ask i j k=>runT lt (k (lt i j))
noncomputable def within(lt:Nat->Nat->Bool)(n:Nat):KasT α->Bool|.ret _=>true|.ask i j k=>decide (i<n)&&decide (j<n)&&decide (i≠j)&&within lt n (k (lt i j))
theorem run_congr(h:∀i j,i<n->j<n->lt i j=lt' i j)(t:KasT α):within lt' n t=true->runT lt t=runT lt' t/\within lt n t=true:=by
 induction t with|ret a=>exact fun _=>⟨rfl,rfl⟩|ask i j k ih=>
  intro hw;have h1:=and_l hw;have e:=h i j (zW (and_l (and_l h1))) (zW (and_r (and_l h1)));refine(ih _ (and_r hw)).imp (fun a=>?_) fun b=>?_
  .show runT lt (k (lt i j))=_;rw[e];exact a
  .show(decide (i<n)&&decide (j<n)&&decide (i≠j)&&within lt n (k (lt i j)))=true;rw[e,b,Bool.and_true];exact h1
theorem run_wp{cmp:Nat->Nat->(Bool->Shared->Prop)->Shared->Prop}{Q:α->Shared->Prop}(hc:∀i j(C:Bool->Shared->Prop),i<n->j<n->i≠j->C (lt i j) s->cmp i j C s)(t:KasT α):within lt n t=true->Q (runT lt t) s->t.kasWp cmp Q s:=by
 induction t with|ret a=>exact fun _ q=>q|ask i j k ih=>exact fun hw q=>hc i j _ (zW (and_l (and_l (and_l hw)))) (zW (and_r (and_l (and_l hw)))) (zW (and_r (and_l hw))) (ih _ (and_r hw) q)
noncomputable def insI(lt:Nat->Nat->Bool)(x:Nat):List Nat->List Nat|[]=>[x]|y::r=>if lt y x then y::insI lt x r else x::y::r
noncomputable def sortI(lt:Nat->Nat->Bool):List Nat->List Nat|[]=>[]|x::r=>insI lt x (sortI lt r)
noncomputable def tab2(a b:Bool)(i j:Nat):Bool:=match i,j with|0,1=>a|1,0=>b|_,_=>false
noncomputable def tab3(a b c d e f:Bool)(i j:Nat):Bool:=match i,j with|0,1=>a|1,0=>b|1,2=>c|2,1=>d|0,2=>e|2,0=>f|_,_=>false
theorem run2:∀a b:Bool,(!(a&&b))=true->within (tab2 a b) 2 (kas_sort 2)=true/\(runT (tab2 a b) (kas_sort 2)).toList=sortI (tab2 a b) [0,1]:=by decide+kernel
noncomputable def ok3(a b c d e f:Bool):Bool:=!(a&&b)&&!(c&&d)&&!(e&&f)&&(!(a&&c)||e)&&(!(d&&b)||f)&&(!(e&&d)||a)&&(!(c&&f)||b)&&(!(b&&e)||c)&&(!(f&&a)||d)&&((a||c)||!e)&&((d||b)||!f)&&((e||d)||!a)&&((c||f)||!b)&&((b||e)||!c)&&((f||a)||!d)
theorem run3:∀a b c d e f:Bool,ok3 a b c d e f=true->within (tab3 a b c d e f) 3 (kas_sort 3)=true/\(runT (tab3 a b c d e f) (kas_sort 3)).toList=sortI (tab3 a b c d e f) [0,1,2]:=by decide+kernel
theorem insI_congr(h:∀i j,i<n->j<n->lt i j=lt' i j){x:Nat}(hx:x<n)(l:List Nat):(∀y∈l,y<n)->insI lt x l=insI lt' x l/\∀y∈insI lt x l,y<n:=by
 induction l with|nil=>exact fun _=>⟨rfl,fun y hy=>zD.mp hy▸hx⟩|cons y r ih=>
  intro hl;have hy:=hl y (zF ..);obtain⟨a,b⟩:=ih fun z hz=>hl z (zI _ hz);show(if lt y x then y::insI lt x r else x::y::r)=(if lt' y x then y::insI lt' x r else x::y::r)/\∀z∈(if lt y x then y::insI lt x r else x::y::r),z<n;rw[h y x hy hx,<-a];cases lt' y x with|true=>exact⟨rfl,fun z hz=>(zL.mp hz).elim (fun e=>e▸hy) (b z)⟩|false=>exact⟨rfl,fun z hz=>(zL.mp hz).elim (fun e=>e▸hx) (hl z)⟩
theorem sortI_congr(h:∀i j,i<n->j<n->lt i j=lt' i j)(l:List Nat):(∀y∈l,y<n)->sortI lt l=sortI lt' l/\∀y∈sortI lt l,y<n:=by
 induction l with|nil=>exact fun _=>⟨rfl,fun y hy=>absurd hy List.not_mem_nil⟩|cons x r ih=>
  intro hl;obtain⟨a,b⟩:=ih fun z hz=>hl z (zI _ hz);obtain⟨c,d⟩:=insI_congr h (hl x (zF ..)) (sortI lt r) b;exact⟨by show insI lt x _=insI lt' x _;rw[c,a],d⟩
noncomputable def keyLt(key:Val->Int)(xs:List Val)(i j:Nat):Bool:=decide (key (xs.getD i .none)<key (xs.getD j .none))
theorem insI_K(key:Val->Int)(xs:List Val)(x:Nat)(l:List Nat):(insI (keyLt key xs) x l).map (xs.getD . .none)=insK key (xs.getD x .none) (l.map (xs.getD . .none)):=by
 induction l with|nil=>rfl|cons y r ih=>
  show List.map _ (if keyLt key xs y x=true then y::insI (keyLt key xs) x r else x::y::r)=if key (xs.getD x .none)<=key (xs.getD y .none)then xs.getD x .none::xs.getD y .none::List.map _ r else xs.getD y .none::insK key (xs.getD x .none) (List.map _ r);by_cases h:key (xs.getD x .none)<=key (xs.getD y .none);.rw[zU h,zN fun e:keyLt key xs y x=true=>Int.not_lt.mpr h (zW e)];rfl
  .rw[zN h,zU (show keyLt key xs y x=true from decide_eq_true (Int.lt_of_not_ge h)),<-ih];rfl
theorem sortI_K(key:Val->Int)(xs:List Val)(l:List Nat):(sortI (keyLt key xs) l).map (xs.getD . .none)=sortK key (l.map (xs.getD . .none)):=by
 induction l with|nil=>rfl|cons x r ih=>
  show(insI _ x (sortI _ r)).map _=_;rw[insI_K,ih];rfl
theorem lt2{P:Nat->Prop}(h0:P 0)(h1:P 1):∀i,i<2->P i|0,_=>h0|1,_=>h1
theorem lt3{P:Nat->Prop}(h0:P 0)(h1:P 1)(h2:P 2):∀i,i<3->P i:=by
 intro v;induction v with
 |zero=>
  intro _;exact h0|succ i ih=>
  intro h;exact lt2 (P:=fun i=>P (i+1)) h1 h2 i (Nat.lt_of_succ_lt_succ h)
theorem i_nn(p q:Int):(!(decide (p<q)&&decide (q<p)))=true:=by
 by_cases h:p<q;.rw[yR (Int.not_lt.mpr (Int.le_of_lt h)),Bool.and_false];rfl
 .rw[yR h];rfl
theorem i_tr(p q r:Int):(!(decide (p<q)&&decide (q<r))||decide (p<r))=true:=by
  by_cases h:p<q
  . by_cases h2:q<r;.rw[decide_eq_true (Int.lt_trans h h2),Bool.or_true]
    .rw[yR h2,Bool.and_false];rfl
  .rw[yR h];rfl
theorem i_nt(p q r:Int):(decide (p<q)||decide (q<r)||!decide (p<r))=true:=by
  by_cases h:p<q;.rw[decide_eq_true h];rfl
  . by_cases h2:q<r;.rw[decide_eq_true h2,Bool.or_true];rfl
    .rw[yR (Int.not_lt.mpr (Int.le_trans (Int.not_lt.mp h2) (Int.not_lt.mp h))),Bool.not_false,Bool.or_true]
theorem and_i{a:Bool}(h:a=true)(h':b=true):(a&&b)=true:=by rw[h,h'];rfl
theorem no_lt(a:Int):decide (a<a)=false:=yR (Int.lt_irrefl a)
theorem ag2(key:Val->Int)(x y:Val):∀i j,i<2->j<2->keyLt key [x,y] i j=tab2 (decide (key x<key y)) (decide (key y<key x)) i j:=have h:∀i,i<2->∀j,j<2->keyLt key [x,y] i j=tab2 (decide (key x<key y)) (decide (key y<key x)) i j:=lt2 (lt2 (no_lt _) rfl) (lt2 rfl (no_lt _));fun i j hi hj=>h i hi j hj
noncomputable abbrev tk(key:Val->Int)(x y z:Val):Nat->Nat->Bool:=tab3 (decide (key x<key y)) (decide (key y<key x)) (decide (key y<key z)) (decide (key z<key y)) (decide (key x<key z)) (decide (key z<key x))
theorem ag3(key:Val->Int)(x y z:Val):∀i j,i<3->j<3->keyLt key [x,y,z] i j=tk key x y z i j:=have h:∀i,i<3->∀j,j<3->keyLt key [x,y,z] i j=tk key x y z i j:=lt3 (lt3 (no_lt _) rfl rfl) (lt3 rfl (no_lt _) rfl) (lt3 rfl rfl (no_lt _));fun i j hi hj=>h i hi j hj
theorem okk(x y z:Int):ok3 (decide (x<y)) (decide (y<x)) (decide (y<z)) (decide (z<y)) (decide (x<z)) (decide (z<x))=true:=and_i (and_i (and_i (and_i (and_i (and_i (and_i (and_i (and_i (and_i (and_i (and_i (and_i (and_i (i_nn _ _) (i_nn _ _)) (i_nn _ _)) (i_tr _ _ _)) (i_tr _ _ _)) (i_tr _ _ _)) (i_tr _ _ _)) (i_tr _ _ _)) (i_tr _ _ _)) (i_nt _ _ _)) (i_nt _ _ _)) (i_nt _ _ _)) (i_nt _ _ _)) (i_nt _ _ _)) (i_nt _ _ _)
theorem rev2:∀a b:Bool,(!(a&&b))=true->(sortI (tab2 a b) [1,0]).reverse=sortI (tab2 b a) [0,1]:=by decide+kernel
theorem rev3:∀a b c d e f:Bool,ok3 a b c d e f=true->(sortI (tab3 a b c d e f) [2,1,0]).reverse=sortI (tab3 b a d c f e) [0,1,2]:=by decide+kernel
theorem run_sort(key:Val->Int)(xs:List Val)(h2:2<=xs.length)(h3:xs.length<=3):within (keyLt key xs) xs.length (kas_sort xs.length)=true/\(runT (keyLt key xs) (kas_sort xs.length)).toList.map (xs.getD . .none)=sortK key xs:=by
 cases xs with
 |nil=>exact absurd h2 (Nat.not_succ_le_zero 1)|cons x xs=>cases xs with
  |nil=>exact absurd h2 (Nat.lt_irrefl 1)|cons y xs=>cases xs with
   |nil=>
    obtain⟨a,b⟩:=run2 _ _ (i_nn (key x) (key y));obtain⟨c,d⟩:=run_congr (ag2 key x y) (kas_sort 2) a;exact⟨d,(zG (fun a:Array Nat=>a.toList.map _) c).trans ((zG (List.map _) (b.trans (sortI_congr (ag2 key x y) [0,1] (by decide)).1.symm)).trans (sortI_K key [x,y] [0,1]))⟩|cons z xs=>cases xs with
    |nil=>
     obtain⟨a,b⟩:=run3 _ _ _ _ _ _ (okk (key x) (key y) (key z));obtain⟨c,d⟩:=run_congr (ag3 key x y z) (kas_sort 3) a;exact⟨d,(zG (fun a:Array Nat=>a.toList.map _) c).trans ((zG (List.map _) (b.trans (sortI_congr (ag3 key x y z) [0,1,2] (by decide)).1.symm)).trans (sortI_K key [x,y,z] [0,1,2]))⟩|cons=>exact absurd h3 (Nat.not_le_of_lt (Nat.le_add_left 4 _))
theorem nd(a b:Int):decide (-a< -b)=decide (b<a):=decide_eq_decide.mpr Int.neg_lt_neg_iff
theorem sort_rev(key:Val->Int)(xs:List Val)(h3:xs.length<=3):(sortK key xs.reverse).reverse=sortK (fun x=>-key x) xs:=by
 cases xs with|nil=>rfl|cons x xs=>cases xs with
  |nil=>rfl|cons y xs=>cases xs with
   |nil=>
    have h:=sortI_congr (ag2 (fun x=>-key x) x y) [0,1] (by decide);rw[nd,nd]at h;exact(zG List.reverse ((sortI_K key [x,y] [1,0]).symm.trans (zG (List.map _) (sortI_congr (ag2 key x y) [1,0] (by decide)).1))).trans (List.map_reverse.symm.trans ((zG (List.map _) ((rev2 _ _ (i_nn _ _)).trans h.1.symm)).trans (sortI_K (fun x=>-key x) [x,y] [0,1])))|cons z xs=>cases xs with
    |nil=>
     have h:=sortI_congr (ag3 (fun x=>-key x) x y z) [0,1,2] (by decide);rw[tk,nd,nd,nd,nd,nd,nd]at h;exact(zG List.reverse ((sortI_K key [x,y,z] [2,1,0]).symm.trans (zG (List.map _) (sortI_congr (ag3 key x y z) [2,1,0] (by decide)).1))).trans (List.map_reverse.symm.trans ((zG (List.map _) ((rev3 _ _ _ _ _ _ (okk _ _ _)).trans h.1.symm)).trans (sortI_K (fun x=>-key x) [x,y,z] [0,1,2])))|cons=>exact absurd h3 (Nat.not_le_of_lt (Nat.le_add_left 4 _))
theorem sortK_one(key:Val->Int)(xs:List Val)(h:xs.length<2):sortK key xs=xs:=by
 rcases xs with _|⟨x,_|⟨y,r⟩⟩;.rfl
 .rfl
 .simp only[List.length_cons]at h;exact False.elim (lA 0x7162204120412008080650202 tT h)
theorem insK_cons(key:Val->Int)(x y:Val)(r:List Val):insK key x (y::r)=if key x<=key y then x::y::r else y::insK key x r:=rfl
theorem insK_perm(key:Val->Int)(x:Val)(l:List Val):(insK key x l).Perm (x::l):=by
 induction l with|nil=>exact .refl _|cons y r ih=>
  by_cases c:key x<=key y;.exact .of_eq (zU c)
  .exact(List.Perm.of_eq (zN c)).trans ((ih.cons y).trans (.swap x y r))
theorem sortK_perm(key:Val->Int)(l:List Val):(sortK key l).Perm l:=by
 induction l with|nil=>exact .refl _|cons x r ih=>exact(insK_perm key x _).trans (ih.cons x)
theorem getD_map(l:List α)(i:Nat)(d:α):l.getD i d=(l[i]?).getD d:=by simp[List.getD]
theorem VRs.getD(r:VRs h I n v x)(i:Nat):VR h I n (v.getD i .none) (x.getD i .none):=by
 cases e:x[i]? with
 |none=>
  have hl:v.length<=i:=by
   rw[r.length];rcases Nat.lt_or_ge i x.length with q|q;.rw[zH q]at e;cases e
   .exact q
  rw[getD_map,getD_map,e,yJ hl];exact .none|some y=>
  refine xea (r.get e) fun u a b=>?_;rw[getD_map,getD_map,e,a];exact b
theorem VRs.mapI(r:VRs h I n v x):∀l:List Nat,VRs h I n (l.map (v.getD . .none)) (l.map (x.getD . .none)):=by
 intro v;induction v with
 |nil=>
  exact .nil|cons i l ih=>
  exact .cons (r.getD i) ih
theorem VRs.rev(b:Bool)(r:VRs h I n v x):VRs h I n (katRev b v) (katRev b x):=by
 unfold katRev;split;.exact r.reverse
 .exact r
variable{x:Val}{v:Value}
set_option genCtorIdx true in inductive KV where|one|pair
noncomputable def KV.kind:KV->SortKind|.one=>oneType'|.pair=>tuples' true
def KV.ok:KV->Int->Val->Prop|.one,k,r=>r=.int k|.pair,k,r=>keyPair k r
variable{ok:Nat->Str->Bool}
structure Fix(s:Shared)(S:AS)(I:Interp)(p:Addr×Obj):Prop where
 here:s.heap.get? p.1=some p.2
 off:∀t v o',S.H t=some (v,o')->(I t v).cell≠p.1
theorem Fix.ext{p:Addr×Obj}(x:Fix s S I p)(e:Ext W s S I s' S' I')(hw:¬W p.1):Fix s' S' I' p:=by
 refine⟨e.keep _ _ x.here hw x.off,fun t v o' q z=>?_⟩;rcases e.fresh t v o' q with⟨⟨o0,h0⟩,hI⟩|h;.exact x.off t v o0 h0 (hI▸z)
 .rw[z,x.here]at h;cases h
theorem nudge1{o:Obj}(hS:SR B s S I)(hs:Heap.SameBut a s.heap h')(ha:s.heap.get? a=some o)(ho:Soft o)(hb:B.hp.get? a=none)(hl:∀t v o',S.H t=some (v,o')->(I t v).cell≠a)(hn:(h'.get? a).isSome=true)(k:Nat):SR B {s with heap:=h',toks:=k} S I/\Ext (.=a) s S I {s with heap:=h',toks:=k} S I:=by
 have old:∀b,h'.get? b=none->s.heap.get? b=none:=fun b e=>by
  by_cases q:b=a;.rw[q]at e;rw[e]at hn;cases hn
  .rw[<-hs.2 b q];exact e
 exact hS.kept (s':={s with heap:=h',toks:=k}) (W:=(.=a)) (fun b o e hw=>(hs.2 b hw).trans e) (fun b hw=>hw▸hb) (fun b o' hw e=>by
  rw[show b=a from hw,ha]at e;cases e;exact ho) (fun t v o e hw=>hl t v o e hw) old rfl rfl
structure SIn(B:Base)(a kS:Addr)(e1:Nat)(zs:List (Addr×Obj))(s₀:Shared)(S:AS)(I₀:Interp)(xs:List Val)(vs:List Value)(s:Shared)(I:Interp)(ks:List Value)(kvs:List Val)(e:Nat):Prop where
 sr:SR B s S I
 ext:Ext (.=a) s₀ S I₀ s S I
 fa:Fix s S I (a,seqObj "list" #[] e1)
 fk:Fix s S I (kS,seqObj "list" ks.toArray e)
 fz:∀z∈zs,Fix s S I z
 kv:VRs s.heap I S.n ks kvs
 vs:VRs s.heap I S.n vs xs
def KeyCall(B:Base)(A:Around)(f:Value)(zs:List (Addr×Obj))(h₀:Heap)(I₀:Interp)(S:AS)(kd:KV)(key:Val->Int)(x:Val):Prop:=∀v s I,SR B s S I->VR s.heap I S.n v x->(∀z∈zs,Fix s S I z)->Up h₀ I₀ S.n s.heap I S.n->wpAny (model B.prog B.w) A (call f [v]) (fun k s'=>∃kv I',SR B s' S I'/\Ext (fun _=>False) s S I s' S I'/\VR s'.heap I' S.n k kv/\kd.ok (key x) kv) (fun _ _=>False) s
inductive KVs(kd:KV)(key:Val->Int):List Val->List Val->Prop|nil:KVs kd key [] []|cons{kv x:Val}{r r':List Val}:kd.ok (key x) kv->KVs kd key r r'->KVs kd key (kv::r) (x::r')
theorem KVs.snoc{kv:Val}(h:kd.ok (key x) kv)(k:KVs kd key r r'):KVs kd key (r++[kv]) (r'++[x]):=by
 induction k with|nil=>exact .cons h .nil|cons a _ ih=>exact .cons a ih
theorem KVs.length(k:KVs kd key r r'):r.length=r'.length:=by
 induction k with|nil=>rfl|cons _ _ ih=>exact zG (.+1) ih
theorem KVs.get(k:KVs kd key r r'):∀{i:Nat},i<r.length->kd.ok (key (r'.getD i .none)) (r.getD i .none):=by
 induction k with|nil=>exact fun h=>absurd h (Nat.not_lt_zero _)|cons a _ ih=>intro i h;cases i with|zero=>exact a|succ i=>exact ih (Nat.lt_of_succ_lt_succ h)
theorem KVs.reverse(k:KVs kd key r r'):KVs kd key r.reverse r'.reverse:=by
 induction k with|nil=>exact .nil|cons a _ ih=>rw[List.reverse_cons,List.reverse_cons];exact ih.snoc a
theorem KVs.rev(b:Bool)(h:KVs kd key r r'):KVs kd key (katRev b r) (katRev b r'):=by
 unfold katRev;split;.exact h.reverse
 .exact h
variable{r':Expr}{r:X}
theorem keys_loop{body:Value->PUnit->Sem (ForInStep PUnit)}(hbk:B.hp.get? kS=none)(hk0:s₀.heap.get? kS=none)(hak:a≠kS)(hzk:∀z∈zs,z.1≠kS)(hb:∀v s(P:ForInStep PUnit->Shared->Prop),wpAny (model B.prog B.w) A (call f [v]) (fun k s''=>∃arr e',s''.heap.get? kS=some (seqObj "list" arr e')/\arr.size<64/\P (.yield ⟨⟩) {s'' with heap:=s''.heap.update kS (Obj.mapSeq (·.push k))}) (fun _ _=>False) s->wpAny (model B.prog B.w) A (body v ⟨⟩) P (fun _ _=>False) s):∀(r:List Value)(rx:List Val)s I ks kvs done e,SIn B a kS e1 zs s₀ S I₀ rx r s I ks kvs e->(∀x∈rx,KeyCall B A f zs s₀.heap I₀ S kd key x)->KVs kd key kvs done->ks.length+r.length<64->wpAny (model B.prog B.w) A (forIn r PUnit.unit body) (fun _ s'=>∃I' ks' kvs' e',SIn B a kS e1 zs s₀ S I₀ [] [] s' I' ks' kvs' e'/\KVs kd key kvs' (done++rx)) (fun _ _=>False) s:=by
 intro r;induction r with
 |nil=>
  intro rx s I ks kvs done e h _ hk _;have :=h.vs.length;cases rx with
  |nil=>
   rw[List.forIn_nil];exact zR ⟨I,ks,kvs,e,⟨h.sr,h.ext,h.fa,h.fk,h.fz,h.kv,.nil⟩,by simpa using hk⟩|cons _ _=>simp at this
 |cons v r ih=>
  intro rx s I ks kvs done e h hc hk hl;cases rx with
  |nil=>have :=h.vs.length;simp at this|cons x rx=>
   cases h.vs with|cons hv hr=>
    rw[List.forIn_cons];refine zC (hb v s _ (zB (hc x (by simp) v s I h.sr hv h.fz h.ext.up) ?_ fun _ _ z=>z));intro k s₁ q_r;refine xe2a3 q_r fun kv I₁ hS₁ hE₁ hkv hok=>?_;have fk₁:=h.fk.ext hE₁ (fun z=>z);have fa₁:=h.fa.ext hE₁ (fun z=>z);refine⟨ks.toArray,e,fk₁.here,by rw[List.size_toArray];simp only[List.length_cons]at hl;exact lB 0x7160342040412100016034200 tT hl,?_⟩;have hg':=get?_update_seq fk₁.here (·.push k);have ea:ks.toArray.push k=(ks++[k]).toArray:=by simp
    rw[ea]at hg';have hsb:Heap.SameBut kS s₁.heap (s₁.heap.update kS (Obj.mapSeq (·.push k))):=Heap.SameBut.update ..;obtain⟨S2,E2⟩:=nudge1 hS₁ hsb fk₁.here (.list rfl rfl) hbk fk₁.off (by rw[hg'];rfl) s₁.toks;have keepF:∀p:Addr×Obj,p.1≠kS->Fix s₁ S I₁ p->Fix {s₁ with heap:=s₁.heap.update kS (Obj.mapSeq (·.push k))} S I₁ p:=fun p hp hx=>⟨(hsb.2 _ hp).trans hx.here,hx.off⟩;have E3:Ext (.=a) s₀ S I₀ {s₁ with heap:=s₁.heap.update kS (Obj.mapSeq (·.push k))} S I₁:=by
     have :=((h.ext.trans (hE₁.weaken fun _ z=>z.elim)).weaken (W':=fun b=>b=a\/b=kS) fun b hb=>.inl (.inl hb)).trans (E2.weaken fun b hb=>.inl (.inr hb));exact this.weaken fun b hb=>hb.elim .inl fun q=>.inr (by rw[q];exact hk0)
    have step:SIn B a kS e1 zs s₀ S I₀ rx r {s₁ with heap:=s₁.heap.update kS (Obj.mapSeq (·.push k))} I₁ (ks++[k]) (kvs++[kv]) (if(ks++[k]).toArray.size==ks.toArray.size then e else e+1):=⟨S2,E3,keepF _ hak fa₁,⟨hg',fk₁.off⟩,fun z hz=>keepF z (hzk z hz) ((h.fz z hz).ext hE₁ fun q=>q),((h.kv.up hE₁.up).append (.cons hkv .nil)).up E2.up,(hr.up hE₁.up).up E2.up⟩;have nx:=ih rx _ I₁ (ks++[k]) (kvs++[kv]) (done++[x]) _ step (fun y hy=>hc y (by simp[hy])) (hk.snoc hok) (by rw[zJ];simp only[List.length_cons,List.length_nil]at hl⊢;exact lB 0x7160342040412100016034204100404120200 tT hl);rw[List.append_assoc]at nx;exact nx
theorem pair_elim{a:Int}(r:VR h I n u (.tup [.int a,z])){G:Prop}(k:∀id t w,u=.ref id->h.get? id=some {cls:=.type "tuple",data:=.seq [.int a t,w].toArray}->G):G:=by
 refine xe2a2 (VR.tup_inv r) fun id items e g r=>?_;refine xe2a2 (VRs.cons_inv r) fun p l e1 hp hl=>?_;refine xe2a2 (VRs.cons_inv hl) fun w m e2 _ hm=>?_;refine xe (VR.int_inv hp) fun t e3=>?_;have e4:m=[]:=List.length_eq_zero_iff.mp hm.length;rw[e1,e2,e3,e4]at g;exact k id t w e g
theorem cmp_one{kvs:List Val}{C:Bool->Shared->Prop}(hu:A.units<cLine)(hkv:VRs s.heap I S.n ks kvs)(hk:KVs kd key kvs xs)(hi:i<xs.length)(hj:j<xs.length)(hne:kd=.pair->i≠j->key (xs.getD i .none)≠key (xs.getD j .none))(κ:SortKind)(hκ:κ=kd.kind)(hij:i≠j)(q:C (keyLt key xs i j) s):kas_ask B.prog B.w A κ ks i j C s:=by
 unfold kas_ask;subst hκ;have hi':=hk.get (i:=i) (by rw[hk.length];exact hi);have hj':=hk.get (i:=j) (by rw[hk.length];exact hj);have vi:=hkv.getD i;have vj:=hkv.getD j;generalize ks.getD i Value.none=u at vi⊢;generalize ks.getD j Value.none=v at vj⊢;generalize kvs.getD i Val.none=p at vi hi';generalize kvs.getD j Val.none=p' at vj hj';clear hk;cases kd with
 |one=>
  simp only[KV.ok]at hi' hj';subst hi' hj';obtain⟨t,rfl⟩:=VR.int_inv vi;obtain⟨t',rfl⟩:=VR.int_inv vj;exact kat_lt_int q|pair=>
  obtain⟨z,rfl⟩:=hi';obtain⟨z',rfl⟩:=hj';refine pair_elim vi fun id t w e g=>?_;subst e;refine pair_elim vj fun id' t' w' e g'=>?_;subst e;refine kat_lt (Q:=C) g rfl g' rfl ?_;have hd:=hne rfl hij;refine kat_cons (wpAny_eqBool_int ?_);rw[show(key (xs.getD i .none)==key (xs.getD j .none))=false from zQ.mpr hd];refine kat_no ?_;exact oneLt_int q
theorem kinds{kvs:List Val}{P:SortKind->Shared->Prop}(hkv:VRs s.heap I S.n ks kvs)(hk:KVs kd key kvs xs)(h2:2<=xs.length)(q:∀κ,κ=kd.kind->P κ s):wpAny (model B.prog B.w) A (keyKind' ks.toArray) P (fun _ _=>False) s:=by
 have hl:ks.length=xs.length:=by rw[hkv.length,hk.length]
 cases kd with|one=>
  have hi:∀{ks:List Value}{kvs xs:List Val},VRs s.heap I S.n ks kvs->KVs .one key kvs xs->IntsAre ks (xs.map key):=by
   intro ks kvs xs hv hk;induction hk generalizing ks with|nil=>cases hv;exact .nil|cons a _ ih=>
    refine xe2a2 (VRs.cons_inv hv) fun _ _ e_2 p r=>?_;clear hv;subst e_2;simp only[KV.ok]at a;subst a;obtain⟨t,rfl⟩:=VR.int_inv p;exact .cons _ _ (ih r)
  rw[ksk_kind (kz:=xs.map key) (by simpa using hi hkv hk) (by rw[List.size_toArray];exact lB 0x77f7f251000061022060022 tT h2 hl)];exact zR (q _ rfl)|pair=>
  have ht:∀{ks:List Value}{kvs xs:List Val},VRs s.heap I S.n ks kvs->KVs .pair key kvs xs->∃fs,KatTups s.heap ks fs/\fs.length=ks.length/\∀v∈fs,∃i t,v=.int i t:=by
   intro ks kvs xs hv hk;induction hk generalizing ks with|nil=>cases hv;exact⟨[],trivial,rfl,by simp⟩|cons a _ ih=>
    refine xe2a2 (VRs.cons_inv hv) fun _ _ e_2 p r=>?_;clear hv;subst e_2;obtain⟨z,rfl⟩:=a;refine xe2a2 (VR.tup_inv p) fun _ _ e_2 g r'=>?_;subst e_2;refine xe2a2 (VRs.cons_inv r') fun _ _ e_2 a1 r''=>?_;clear r';subst e_2;obtain⟨t,rfl⟩:=VR.int_inv a1;refine xea2 (ih r) fun fs h1 h2 h3=>?_;exact⟨_::fs,KatTups.cons g rfl rfl (by simp;rfl) h1,by simp[h2],fun v hv=>by rcases zL.mp hv with rfl|hv;exact⟨_,_,rfl⟩;exact h3 v hv⟩
  refine xea2 (ht hkv hk) fun fs h1 h2' h3=>?_;refine kat_kind (T:=.type "int") h1 (by exact lC 0x77f7f2520007f7f251020061022160002 tT h2 hl h2') (fun v hv=>?_) (by decide) (q _ rfl);refine xe2 (h3 v hv) fun i t e_2=>?_;clear hv;subst e_2;exact Looks.of_pure rfl
theorem sort_tree{P:PySem.Fin->Shared->Prop}(hu:A.units<cLine)(hS:SR B s S I)(hx:VRs s.heap I S.n vs xs)(ho:Fix s S I (a,seqObj "list" vs.toArray n))(hba:B.hp.get? a=none)(h3:xs.length<=3)(hz:∀z∈zs,Fix s S I z)(hza:∀z∈zs,z.1≠a)(hap:kd=.pair->keysApart key xs)(hc:∀x∈xs,KeyCall B A f zs s.heap I S kd key x)(q:∀s' I' out c,SR B s' S I'->Ext (.=a) s S I s' S I'->Fix s' S I' (a,seqObj "list" out.toArray c)->VRs s'.heap I' S.n out (if b then sortK (fun x=>-key x) xs else sortK key xs)->P (.done (.ret .none)) s'):wpAny (model B.prog B.w) A (ksk_tree a f b) P (fun _ _=>False) s:=by
  have hl:=hx.length;have ha:a<s.heap.objs.size:=Heap.lt_size ho.here;have s1:=Heap.SameBut.update s.heap a (Obj.mapSeq fun _=>(#[]:Array Value));obtain⟨e1,ho1⟩:∃e1,(s.heap.update a (Obj.mapSeq fun _=>(#[]:Array Value))).get? a=some (seqObj "list" #[] e1):=⟨_,get?_update_seq ho.here fun _=>#[]⟩;obtain⟨S1,E1⟩:=nudge1 hS s1 ho.here (.list rfl rfl) hba ho.off (by rw[ho1];rfl) s.toks;generalize hh1:s.heap.update a (Obj.mapSeq fun _=>(#[]:Array Value))=h1 at s1 ho1 S1 E1;have hz1:h1.objs.size=s.heap.objs.size:=s1.1;have hkS:(h1.push (seqObj "tuple" vs.toArray 0)).objs.size=s.heap.objs.size+1:=by rw[size_push',hz1]
  have kp:∀c o,h1.get? c=some o->((h1.push (seqObj "tuple" vs.toArray 0)).push (seqObj "list" #[] 0)).get? c=some o:=fun c o e=>push_keep _ _ (push_keep _ _ e);have old2:∀c,((h1.push (seqObj "tuple" vs.toArray 0)).push (seqObj "list" #[] 0)).get? c=none->h1.get? c=none:=fun c e=>by
    cases q:h1.get? c with|none=>rfl|some o=>rw[kp c o q]at e;cases e
  obtain⟨S2,E2⟩:=S1.kept (s':={s with heap:=(h1.push (seqObj "tuple" vs.toArray 0)).push (seqObj "list" #[] 0)}) (W:=fun _=>False) (fun c o e _=>kp c o e) (fun _ z=>z.elim) (fun _ _ z=>z.elim) (fun _ _ _ _ z=>z) old2 rfl rfl;have fk:s.heap.get? (s.heap.objs.size+1)=none:=Heap.get?_none_of_le (Nat.le_succ _);have nb:B.hp.get? (s.heap.objs.size+1)=none:=by
    cases z:B.hp.get? (s.heap.objs.size+1)with|none=>rfl|some o=>have :=hS.keep _ _ z;rw[fk]at this;cases this
  have offk:∀t v o',S.H t=some (v,o')->(I t v).cell≠s.heap.objs.size+1:=fun t v o' e q=>by
    refine xea (hS.shape e) fun ob h _=>?_;rw[q,fk]at h;cases h
  have hak:a≠s.heap.objs.size+1:=Nat.ne_of_lt (Nat.lt_succ_of_lt ha);have gk:((h1.push (seqObj "tuple" vs.toArray 0)).push (seqObj "list" #[] 0)).get? (s.heap.objs.size+1)=some (seqObj "list" #[] 0):=by
    rw[<-hkS];exact xB _ rfl
  have start:SIn B a (s.heap.objs.size+1) e1 zs s S I xs vs {s with heap:=(h1.push (seqObj "tuple" vs.toArray 0)).push (seqObj "list" #[] 0)} I [] [] 0:=⟨S2,(E1.trans (E2.weaken fun _ z=>z.elim)),⟨kp _ _ ho1,ho.off⟩,⟨gk,offk⟩,fun z hz'=>⟨kp _ _ ((s1.2 _ (hza z hz')).trans (hz z hz').here),(hz z hz').off⟩,.nil,(hx.up E1.up).up E2.up⟩;unfold ksk_tree;refine zC (listItems_at ho.here rfl ?_);refine zC (listUpdate_at ho.here rfl ?_ (by rw[List.size_toArray,yW];exact lB 0x7261000063210060303030303031200 tT h3 hl) (yA _));rw[hh1];refine zC (seqEpoch_at (s:={s with heap:=h1}) ho1 rfl ?_);refine zC (wpAny_newTuple ?_ (by show vs.length<=_;rw[yW];exact lB 0x7261000063210060303030303031200 tT h3 hl));refine zC (wpAny_newList ?_ (yA _));refine wpAny_holding ?_;show wpAny _ A (ksk_rest a f b vs.toArray e1 (.ref (h1.push (seqObj "tuple" vs.toArray 0)).objs.size)) _ _ _;rw[hkS];unfold ksk_rest;refine zC (wpAny_rule ?_);first|rw[List.forIn_toArray]|(rw[<-Array.forIn_toList];simp only[List.toList_toArray])|rw[<-Array.forIn_toList]
  refine zC (zB (keys_loop (kd:=kd) (key:=key) (f:=f) nb fk hak (fun z hz' q=>?_) (fun v s' P' hv=>?_) vs xs _ I [] [] [] 0 start hc .nil (by simp;exact lB 0x726100006321016034200 tT h3 hl)) ?_ fun _ _ z=>z);.have :=(hz z hz').here;rw[q,fk]at this;cases this
  . refine zC (wpAny_attempt (zB hv (fun k s'' hk=>?_) fun _ _ hF=>hF.elim));refine xe2a2 hk fun arr e' g hsz hp=>?_;try dsimp only
    refine zC (listUpdate_at g rfl ?_ (by rw[yW];exact lA 0x716034200060303030303031200 tT hsz) (by rw[Array.size_push,yW];exact lA 0x71603420006041203030303030312041200 tT hsz));exact zR hp
  . intro _ s₂ q_r;refine xe4a q_r fun I₂ ks kvs e h hk=>?_;rw[List.nil_append]at hk;have hkl:ks.length=vs.length:=by rw[h.kv.length,hk.length,hl]
    try dsimp only
    refine zC (listItems_at h.fk.here rfl ?_);have E02:=h.ext;have tail:∀(st:SortSt)(out:List Value),(arrOf st).map (·.2)=out.toArray->out.length<=3->failedOf st=none->VRs s₂.heap I₂ S.n (katRev b out) (if b then sortK (fun x=>-key x) xs else sortK key xs)->wpAny (model B.prog B.w) A (ksk_tail a b e1 (.ref (s.heap.objs.size+1)) st) P (fun _ _=>False) s₂:=by
      intro st out hout hol hf hvo;unfold ksk_tail;try dsimp only
      rw[hout,kat_outs];have u1:Heap.SameBut (s.heap.objs.size+1) s₂.heap (s₂.heap.update (s.heap.objs.size+1) (Obj.mapSeq fun _=>(#[]:Array Value))):=Heap.SameBut.update ..;obtain⟨ck,hck⟩:∃ck,(s₂.heap.update (s.heap.objs.size+1) (Obj.mapSeq fun _=>(#[]:Array Value))).get? (s.heap.objs.size+1)=some (seqObj "list" #[] ck):=⟨_,get?_update_seq h.fk.here fun _=>#[]⟩;obtain⟨S3,E3⟩:=nudge1 h.sr u1 h.fk.here (.list rfl rfl) nb h.fk.off (by rw[hck];rfl) s₂.toks;have ga:(s₂.heap.update (s.heap.objs.size+1) (Obj.mapSeq fun _=>(#[]:Array Value))).get? a=some (seqObj "list" #[] e1):=(u1.2 a hak).trans h.fa.here;have u2:Heap.SameBut a (s₂.heap.update (s.heap.objs.size+1) (Obj.mapSeq fun _=>(#[]:Array Value))) ((s₂.heap.update (s.heap.objs.size+1) (Obj.mapSeq fun _=>(#[]:Array Value))).update a (Obj.mapSeq fun _=>(katRev b out).toArray)):=Heap.SameBut.update ..;obtain⟨ca,hca⟩:∃ca,((s₂.heap.update (s.heap.objs.size+1) (Obj.mapSeq fun _=>(#[]:Array Value))).update a (Obj.mapSeq fun _=>(katRev b out).toArray)).get? a=some (seqObj "list" (katRev b out).toArray ca):=⟨_,get?_update_seq ga fun _=>(katRev b out).toArray⟩;obtain⟨S4,E4⟩:=nudge1 (s:={s₂ with heap:=s₂.heap.update (s.heap.objs.size+1) (Obj.mapSeq fun _=>(#[]:Array Value))}) S3 u2 ga (.list rfl rfl) hba h.fa.off (by rw[hca];rfl) s₂.toks;have hsz:(katRev b out).toArray.size=out.length:=by rw[List.size_toArray,kat_len]
      refine zC (listUpdate_at h.fk.here rfl ?_ (by rw[List.size_toArray,yW];exact lC 0x7262000261020063210060303030303031200 tT h3 hl hkl) (yA _));refine zC (wpAny_letGo ?_);refine zC (seqEpoch_at ga rfl ?_);refine zC (listUpdate_at ga rfl ?_ (yA _) (zE (Nat.le_of_eq hsz) (by rw[yW];exact lA 0x70632000604120303030303031200 tT hol)));rw[hf];simp only[bne_self_eq_false,Bool.false_eq_true,if_false];refine zR (q _ I₂ (katRev b out) ca S4 ?_ ⟨hca,h.fa.off⟩ ((hvo.up E3.up).up E4.up));have :=((E02.weaken (W':=fun c=>c=a\/c=s.heap.objs.size+1) fun c hc=>.inl (.inl hc)).trans (E3.weaken fun c hc=>.inl (.inr hc))).trans (E4.weaken fun c hc=>.inl (.inl hc));exact this.weaken fun c hc=>hc.elim .inl fun z=>.inr (by rw[z];exact fk)
    have step:∀t:Sem PySem.Fin,wpAny (model B.prog B.w) A t P (fun _ _=>False) s₂->wpAny (model B.prog B.w) A (if b=true then(do let _<-rule "list.sort.reverse";t)else t) P (fun _ _=>False) s₂:=by
      intro t ht;split;.exact zC (wpAny_rule ht)
      .exact ht
    have hxb:VRs s₂.heap I₂ S.n vs xs:=hx.up E02.up;unfold ksk_end;try dsimp only
    refine step _ ?_;by_cases hn:xs.length<2
    . have hn2:vs.toArray.size<2:=by rw[List.size_toArray];exact lB 0x7162210261000162200 tT hl hn
      rw[zU hn2,zU hn2];refine zC (zR ?_);rw[kat_pairs b hkl];refine zC (zR ?_);try dsimp only
      refine tail _ (katRev b vs) ?_ (by rw[kat_len];exact lB 0x7162210261000063200 tT hl hn) rfl ?_
      .show((List.toArray (katRev b ks)).zip (List.toArray (katRev b vs))).map (·.2)=_;apply Array.toList_inj.mp;rw[Array.toList_map,ksk_zip];exact List.map_snd_zip (by rw[kat_len,kat_len];exact lB 0x77f7f250010061000 tT hkl)
      . rw[sortK_one _ _ hn,sortK_one _ _ hn,ite_self];have :katRev b (katRev b vs)=vs:=by unfold katRev;split<;>simp
        rw[this];exact hxb
    . have hn2:¬vs.toArray.size<2:=by rw[List.size_toArray];exact fun e=>lB 0x71622000610227f7f2510008080650202 tT hl (Nat.le_of_not_lt hn) e
      rw[zN hn2,zN hn2];refine zC (kinds h.kv hk (by exact lA 0x7060022060022 tT (Nat.le_of_not_lt hn)) fun κ hκ=>?_);rw[kat_pairs b hkl];have hlr:(katRev b ks).length=(katRev b vs).length:=by rw[kat_len,kat_len,hkl]
      have hxl:(katRev b xs).length=(katRev b vs).length:=by rw[kat_len,kat_len,hl]
      have hnb:(katRev b vs).length=xs.length:=by rw[kat_len,hl]
      clear q E02 step hnb;obtain⟨w1,w2⟩:=run_sort key (katRev b xs) (by rw[kat_len];exact lA 0x7060022060022 tT (Nat.le_of_not_lt hn)) (by rw[kat_len];exact h3);rw[hxl]at w1 w2;have apart:kd=.pair->∀i j,i<(katRev b xs).length->j<(katRev b xs).length->i≠j->key ((katRev b xs).getD i .none)≠key ((katRev b xs).getD j .none):=by
        intro hp i j hi hj hij;have pw:keysApart key (katRev b xs):=by
          unfold katRev;split;.unfold keysApart;rw[List.pairwise_reverse];exact(hap hp).imp fun h=>Ne.symm h
          .exact hap hp
        have pi:=List.pairwise_iff_getElem.mp pw;rw[getD_map,getD_map,zH hi,zH hj];rcases Nat.lt_or_gt_of_ne hij with z|z;.exact pi i j hi hj z
        .exact(pi j i hj hi z).symm
      refine zC (zB (kat_run (E:=fun _ _=>False) (κ:=κ) (Q:=fun st' s'=>s'=s₂/\∃p:Array Nat,arrOf st'=p.map (kas_item ((List.toArray (katRev b ks)).zip (List.toArray (katRev b vs))))/\failedOf st'=none/\p=runT (keyLt key (katRev b xs)) (kas_sort (katRev b vs).length)) (G:=fun p s'=>s'=s₂/\p=runT (keyLt key (katRev b xs)) (kas_sort (katRev b vs).length)) hlr (by rw[kat_len];exact lB 0x70610227f7f251000060022 tT hl (Nat.le_of_not_lt hn)) (by rw[kat_len];exact lB 0x726100006321016034200 tT h3 hl) (fun p' st' s' _ a2 a3 a4=>⟨a4.1,p',a2,a3,a4.2⟩) ?_) ?_ fun _ _ z=>z)
      .refine run_wp (lt:=keyLt key (katRev b xs)) (n:=(katRev b vs).length) (fun i j C hi hj hij hC=>?_) _ w1 ⟨rfl,rfl⟩;exact cmp_one hu (h.kv.rev b) (hk.rev b) (by rw[hxl];exact hi) (by rw[hxl];exact hj) (fun hp hij=>apart hp i j (by rw[hxl];exact hi) (by rw[hxl];exact hj) hij) κ hκ hij hC
      . clear h apart;rintro⟨⟨⟩,st'⟩s'⟨rfl,p,har,hf,hp⟩;try dsimp only
        refine tail st' _ (kat_snds hlr har) ?_ hf ?_
        .rw[zA,hp];have :=zG List.length w2;rw[zA]at this;rw[this];rw[(sortK_perm key _).length_eq,kat_len];exact h3
        . have m:=(hxb.rev b).mapI p.toList;rw[hp]at m⊢;have m2:VRs s'.heap I₂ S.n ((runT (keyLt key (katRev b xs)) (kas_sort (katRev b vs).length)).toList.map fun i=>(katRev b vs).getD i Value.none) (sortK key (katRev b xs)):=by
            rw[<-w2];exact m
          have m3:=m2.rev b;cases b with|false=>exact m3|true=>
            have er:katRev true (sortK key (katRev true xs))=sortK (fun x=>-key x) xs:=by
              show(sortK key xs.reverse).reverse=_;exact sort_rev key xs h3
            rw[er]at m3;exact m3
theorem PR.lookupI{k:Int}{a:List (Int×Value)}{b:List (Int×Val)}(r:PR h I n a b):match b.lookup k with|some x=>∃v,valueAt a k=some v/\VR h I n v x|none=>valueAt a k=none:=by
 cases e:b.lookup k with|none=>exact r.lookup'.2 e|some x=>exact r.lookup e
theorem call_setdefault{k:Int}{kvs:List (Int×Val)}(hS:SR B s S I)(hL:LR B nc env s.heap I S μ)(hv:VR s.heap I S.n v (.loc t n))(hw:VR s.heap I S.n w (.int k))(hu:VR s.heap I S.n u y)(e:S.H t=some (n,.dictI kvs))(hl:kvs.length<=1000)(p:match kvs.lookup k with|some x=>Q x S|none=>Q y (S.put t n (.dictI (kvs++[(k,y)])))):EvS B A nc env (call (.builtin "dict.setdefault") [v,w,u]) μ s S I Q:=by
 obtain⟨mm,cm,hF,hM⟩:=id hL;obtain⟨rfl,l⟩:=VR.loc_inv hv;obtain⟨tk,rfl⟩:=VR.int_inv hw;refine xaea (hS.obj _ _ _ e) fun hi ps hd hp=>?_;have hd':s.heap.DictOf (PySem.intKind B.prog B.w) (I t n).id ps:=hi▸hd;have lk:=hp.lookupI (k:=k);refine call_meetsIn PySem.F.slot_dict_setdefault hd'.typeIs PySem.F.entry_dict_setdefault (PySem.F.args_dict_setdefault_3 _ _ _) (kt_meets_setdefault (PySem.intKind B.prog B.w) (I t n).id (intKind_is k tk) (notSys (hi▸hS.new _ _ _ e)) u) ⟨ps,hd',by rw[yW,hp.length];exact lA 0x70683e33200060303030303031200 tT hl,fun z hz=>?_,fun hz h' h1 h2=>?_⟩
 .cases q:kvs.lookup k with|some x=>
   rw[q]at lk p;refine xea lk fun z' a b=>?_;rw[a]at hz;cases hz;exact EvQ.pure _ hS hL b p|none=>rw[q]at lk;rw[lk]at hz;cases hz
 .cases q:kvs.lookup k with
  |some x=>
   rw[q]at lk;refine xea lk fun z' a b=>?_;rw[a]at hz;cases hz|none=>
   rw[q]at p;have hna:kvs.any (fun p=>decide (p.1=k))=false:=by
    rw[List.any_eq_false];intro x hx hk;have :=List.lookup_eq_none_iff.mp q x hx;simp only[decide_eq_true_eq]at hk;rw[hk]at this;simp at this
   obtain⟨S',I',a,b,c,f⟩:=UnQ.put (h':=h') (K:=fun S'=>S'=S.put t n (.dictI (putI kvs k y))) (o':=.dictI (putI kvs k y)) (k:=s.toks+1) hS hF hM e (fun b hb=>h2.2 b (by rw[hi];exact hb)) (by
    refine xe3a h1 fun o _ _ ho _=>?_;rw[<-hi,ho];rfl) (fun up=>⟨hi,_,hi▸h1,(hp.up up).storeI k (hu.up up)⟩) rfl;have ep:putI kvs k y=kvs++[(k,y)]:=by unfold putI;rw[hna];rfl
   rw[ep]at a;exact⟨_,S',I',by rw[a];exact p,b,c,f,hu.up c.up⟩
variable{w:World}
theorem EvQ.objG{o:HObj}(hS:SR B s S I)(hL:LR B nc env s.heap I S μ)(hf:s.heap.get? a=none)(hk:∀b o,s.heap.get? b=some o->h'.get? b=some o)(ho:OR B h' (I.set t S.n ⟨a,a⟩) (S.n+1) ⟨a,a⟩ o)(q:Q (.loc t S.n) (S.alloc t o)):EvQ B nc env μ s S I Q (.ref a) {s with heap:=h',toks:=k}:=by
 obtain⟨m,cm,hF,hM⟩:=hL;refine xa3 (grow hS hF hM hk k) fun S1 E1 F1 M1=>?_;have lt:=S1.lt;have off:∀t v o',S.H t=some (v,o')->(I t v).cell≠a:=fun t v o' e q=>by
  refine xea (hS.shape e) fun ob h _=>?_;rw[q,hf]at h;cases h
 have nb:B.hp.get? a=none:=by
  cases z:B.hp.get? a with|none=>rfl|some o=>have :=hS.keep _ _ z;rw[hf]at this;cases this
 have nl:a≠env.locals:=by
  clear ho off nb;rintro rfl;refine xe3a hF.ns fun o _ _ ho _=>?_;rw[hf]at ho;cases ho
 refine⟨_,_,_,q,S1.adopt (p:=⟨a,a⟩) off nb ho,E1.adopt (p:=⟨a,a⟩) lt hf,⟨m,cm,F1.adopt lt nl,M1.up .set⟩,?_⟩;have :=VR.loc (h:=h') (I:=I.set t S.n ⟨a,a⟩) (n:=S.n+1) (t:=t) (v:=S.n) (xA _);rw[Interp.set_self]at this;exact this
theorem ev_dict0{k:DK}(q:Q (.loc t S.n) (S.alloc t (DK.obj k))):EvJ B A nc env (eval (.Dict [] [] pos) env) μ S Q:=by
 intro s I hS hL;refine wpAny_Dict_empty ?_;have hg:(s.heap.push {cls:=.type "dict",data:=.dict #[]}).get? s.heap.objs.size=some {cls:=.type "dict",data:=.dict #[]}:=xB _ rfl;refine EvQ.objG (k:=s.toks) (t:=t) hS hL (size_none _) push_keep ?_ q;clear q;cases k with|I=>exact⟨rfl,[],⟨_,#[],0,hg,⟨rfl,rfl,rfl⟩,rfl,(by intro e he;simp at he),.nil,(by simp)⟩,trivial⟩|S=>exact⟨rfl,[],⟨_,#[],0,hg,⟨rfl,rfl,rfl⟩,rfl,(by intro e he;simp at he),.nil,(by simp)⟩,trivial⟩|T=>exact⟨rfl,[],⟨_,#[],0,hg,⟨rfl,rfl,rfl⟩,rfl,rfl,(by intro x hx;simp at hx),(by simp)⟩,(by intro x hx;simp at hx),trivial⟩
theorem ev_dictS{k1 k2:Str}{e1 e2:Expr}{n1 n2:Nat}{p2:Pos}(hne:k1≠k2)(h:EvJ B A nc env (eval e1 env) μ S fun v S=>EvJ B A nc env (eval e2 env) μ S fun v' S=>∃t,Q (.loc t S.n) (S.alloc t (.dictS [(k1,v),(k2,v')]))):EvJ B A nc env (eval (.Dict [some (.Constant (.str k1) n1 p1),some (.Constant (.str k2) n2 p2)] [e1,e2] pos) env) μ S Q:=by
  intro s I hS hL;obtain⟨m,cm,hF,hM⟩:=id hL;refine wpAny_Dict_walk (knd:=PySem.strKind B.prog B.w) rfl rfl (by simp) (by simp) ?_;have hg:(s.heap.push {cls:=.type "dict",data:=.dict #[]}).get? s.heap.objs.size=some {cls:=.type "dict",data:=.dict #[]}:=xB _ rfl;refine xa3 (grow hS hF hM (push_keep (o:={cls:=.type "dict",data:=.dict #[]})) s.toks) fun S0 E0 F0 M0=>?_;have fx0:Fix {s with heap:=s.heap.push {cls:=.type "dict",data:=.dict #[]}} S I (s.heap.objs.size,{cls:=.type "dict",data:=.dict #[]}):=⟨hg,fun t v o' e q=>by
  refine xea (hS.shape e) fun ob h _=>?_;rw[q,size_none]at h;cases h⟩;have nL:s.heap.objs.size≠env.locals:=fun q=>by
    refine xe3a hF.ns fun o _ _ ho _=>?_;rw[<-q,size_none]at ho;cases ho
  have nb:B.hp.get? s.heap.objs.size=none:=by
    cases z:B.hp.get? s.heap.objs.size with|none=>rfl|some o=>have :=hS.keep _ _ z;rw[size_none]at this;cases this
  show wpAny _ A (do let kv<-eval (.Constant (.str k1) n1 p1) env let vv<-holding [kv] (do let x<-eval e1 env;standAt pos;pure x)return(kv,vv)::(<-holding [kv,vv] (do let kv<-eval (.Constant (.str k2) n2 p2) env let vv<-holding [kv] (do let x<-eval e2 env;standAt pos;pure x)return(kv,vv)::(<-holding [kv,vv] (pure []))))) _ _ _;refine zC (wpAny_Constant_str ?_);refine zC (wpAny_holding (zC (zB (h _ I (S0.toks _) ⟨m,cm,F0,M0⟩) ?_ fun _ _ z=>z)));rintro v s₁⟨x,S₁,I₁,q,hS₁,hE₁,hL₁,hv⟩;refine zC (wpAny_standAt (zR (zC (wpAny_holding ?_))));refine zC (wpAny_Constant_str ?_);refine zC (wpAny_holding (zC (zB (q _ I₁ (hS₁.toks _) hL₁) ?_ fun _ _ z=>z)));rintro v' s₂⟨x',S₂,I₂,⟨t,q⟩,hS₂,hE₂,hL₂,hv'⟩;refine zC (wpAny_standAt (zR (zC (wpAny_holding (zR (zR (zR ?_)))))));have fx1:=Fix.ext (s:={s with heap:=s.heap.push {cls:=.type "dict",data:=.dict #[]}}) fx0 (hE₁.ofToks) nL;have fx2:=Fix.ext fx1 (hE₂.ofToks) nL;refine⟨[(k1,v),(k2,v')],?_,⟨_,#[],0,fx2.here,⟨rfl,rfl,rfl⟩,rfl,(by intro e he;simp at he),.nil,(by simp)⟩,fun h' hd hs=>?_⟩;.exact⟨isStrOf_self (prog:=B.prog) (w:=B.w) k1 _,rfl,isStrOf_self (prog:=B.prog) (w:=B.w) k2 _,rfl,trivial⟩
  . have hm:merged [] [(k1,v),(k2,v')]=[(k1,v),(k2,v')]:=by
      simp[merged,stored,hne]
    rw[hm]at hd;obtain⟨S3,E3⟩:=nudge1 hS₂ hs fx2.here (.dict rfl) nb fx2.off (by refine xe3a hd fun o _ _ ho _=>?_;rw[ho];rfl) (s₂.toks+[(k1,v),(k2,v')].length);have Ea:Ext (fun a=>We env a\/a=s.heap.objs.size) s S I {s₂ with heap:=h',toks:=s₂.toks+[(k1,v),(k2,v')].length} S₂ I₂:=(((E0.trans (hE₁.ofToks)).trans (hE₂.ofToks)).weaken fun a h=>.inl (.inl h)).trans (E3.weaken fun a h=>.inl (.inr h));have Eb:Ext (We env) s S I {s₂ with heap:=h',toks:=s₂.toks+[(k1,v),(k2,v')].length} S₂ I₂:=Ea.weaken fun a h=>h.elim .inl fun q=>.inr (by rw[q];exact size_none _);have L3:LR B nc env h' I₂ S₂ μ:=by
      obtain⟨m2,cm2,hF2,hM2⟩:=hL₂;have nw:∀a,Wf env a->a≠s.heap.objs.size:=fun a hw q=>by
        rcases hw with hw|⟨n,hn,hw⟩;.exact nL (q▸hw)
        .refine xea (hF.cell n a hn hw) fun oc hc _=>?_;rw[q,size_none]at hc;cases hc
      exact LR.ext hS₂ ⟨m2,cm2,hF2,hM2⟩ E3 nw
    obtain⟨m3,cm3,F3,M3⟩:=L3;refine⟨_,_,_,q,S3.adopt (p:=⟨s.heap.objs.size,s.heap.objs.size⟩) fx2.off nb ⟨rfl,_,hd,rfl,?_,rfl,?_,trivial⟩,Eb.adopt (p:=⟨s.heap.objs.size,s.heap.objs.size⟩) hS₂.lt (size_none _),⟨m3,cm3,F3.adopt hS₂.lt nL,M3.up .set⟩,?_⟩;.exact((hv.up hE₂.ofToks.up).up E3.up).up .set
    .exact(hv'.up E3.up).up .set
    .have :=VR.loc (h:=h') (I:=I₂.set t S₂.n ⟨s.heap.objs.size,s.heap.objs.size⟩) (n:=S₂.n+1) (t:=t) (v:=S₂.n) (xA _);rw[Interp.set_self]at this;exact this
def RawDict(h:Heap)(d:Addr)(es:Array DictEntry)(ep:Nat):Prop:=∃o,h.get? d=some o/\o.ExactDict/\o.data=.dict es ep
theorem RawDict.typeIs(x:RawDict s.heap d es ep):s.TypeIs (.ref d) "dict":=let⟨o,ho,hc,_⟩:=x;⟨o,ho,hc.1⟩
theorem raw_iter{P:Value->Shared->Prop}(hd:(d==sysModules)=false)(hm:RawDict s.heap d es ep)(hQ:P (.ref s.heap.objs.size) {s with heap:=s.heap.push {cls:=.type "dict_keyiterator",data:=.fields #[.ref d,.int 0 0,.int es.size 0,.int ep 0]}}):wpAny (model prog w) A (pyIter (.ref d)) P E s:=by
 have hT:=hm.typeIs;refine xea2 hm fun o ho hc hdat=>?_;refine wpAny_pyIter_slot hT PySem.F.slot_dict_iter (wpAny_call_entry PySem.F.slot_dict_iter hT PySem.F.entry_dict_iter ?_ (PySem.F.args_dict_iter_1 _));unfold Builtin.«dict.__iter__»;refine zC ?_;unfold Builtin.Dict.dictSlotNone;refine zC (wpAny_notOrdered_dict hT ?_);show wpAny _ _ (pure (Value.ref d)) _ _ s;refine zR ?_;show wpAny _ _ (Builtin.Dict.showsAll d>>=_) _ _ s;unfold Builtin.Dict.showsAll;rw[zN (by rw[hd];exact Bool.false_ne_true)];refine zC (zR ?_);refine zC (wpAny_dictEntries ho hdat ?_);refine zC (wpAny_dictEpoch ho hdat ?_);refine zC (wpAny_newObj_type (zR ⟨_,rfl,"dict_keyiterator",_,⟨_,xB _ rfl,rfl⟩,PySem.F.slot_dict_keyiterator_next.lookup,?_⟩));simpa[rawInt]using hQ
theorem raw_item{e:DictEntry}{P:Option Value->Shared->Prop}(hit:s.heap.IsKeyIter it d i es.size ep)(hm:RawDict s.heap d es ep)(hx:es[i]?=some e)(hQ:∀h',h'.IsKeyIter it d (i+1) es.size ep->Heap.SameBut it s.heap h'->P (some e.key) {s with heap:=h'}):wpAny (model prog w) A (pyNext (.ref it)) P E s:=by
 refine xea2 (id hit) fun o ho hc hd=>?_;refine xea2 hm fun od hod hcd hdd=>?_;unfold pyNext;refine zC (wpAny_attempt (wpAny_callSpecial?_slot (name:=Str.ofString "__next__") hit.typeIs PySem.F.slot_dict_keyiterator_next (wpAny_call_entry PySem.F.slot_dict_keyiterator_next hit.typeIs PySem.F.entry_dict_keyiterator_next ?_ (PySem.F.args_dict_keyiterator_next_1 _))));refine zC (zR ?_);refine zC ?_;refine zC ?_;first|refine zC (wpAny_typeNameOfWhole_keyiter hit.typeIs (zR ?_))|refine zC (wpAny_typeNameOf_keyiter hit.typeIs (zR ?_))
 refine zC (wpAny_fieldsOf ho hd ?_);have hown:Builtin.Dict_items.ownsTuple "dict_keyiterator"=false:=by decide
 rw[hown,zN Bool.false_ne_true];show wpAny _ _ (if(Value.ref d==Value.none)=true then _ else _) _ _ s;rw[zN (show¬((Value.ref d==Value.none)=true)from Bool.false_ne_true)];refine zC (zR ?_);refine zC (wpAny_dictEntries hod hdd ?_);rw[zN (by simp)];refine zC (zR ?_);refine zC (wpAny_dictEpoch hod hdd ?_);rw[zN (by simp)];refine zR ?_;have hlt':i<es.size:=by
  rcases Nat.lt_or_ge i es.size with h|h;.exact h
  .rw[Array.getElem?_eq_none h]at hx;cases hx
 have he:es[i]=e:=by rw[Array.getElem?_eq_getElem hlt']at hx;clear hQ;cases hx;rfl
 dsimp only;rw[zN (show¬((i:Int)<0)from fun e=>lA 0x746025402008080650202 tT e),yY,Array.getElem?_eq_getElem hlt'];refine zC ?_;first|refine zC (wpAny_typeNameOfWhole_keyiter hit.typeIs (zR ?_))|refine zC (wpAny_typeNameOf_keyiter hit.typeIs (zR ?_))
 refine zC (wpAny_isOneOf_keyiter hit.typeIs ?_);show wpAny _ _ (setField (.ref it) 1 (rawInt ((i:Int)+1))>>=_) _ _ s;refine zC (wpAny_setField ho hd (by simp) ?_);have hit':(s.heap.update it (Obj.mapFields (·.setIfInBounds 1 (rawInt ((i:Int)+1))))).IsKeyIter it d (i+1) es.size ep:=⟨_,Heap.get?_update_self _ ho (Obj.isFreed_of_fields (Obj.data_mapFields hd _)),(Obj.cls_mapFields ..).trans hc,by rw[Obj.data_mapFields hd];simp[rawInt]⟩;refine zC (wpAny_holding ?_);refine zC (wpAny_isOneOf_keyiter (s:={s with heap:=s.heap.update it (Obj.mapFields (·.setIfInBounds 1 (rawInt ((i:Int)+1))))}) hit'.typeIs ?_);show wpAny _ _ (pure es[i].key) _ _ _;rw[he];exact zR (zR ⟨_,rfl,zR (hQ _ hit' (Heap.SameBut.update ..))⟩)
theorem raw_end{P:Option Value->Shared->Prop}(hh:A.handled=none)(hit:s.heap.IsKeyIter it d i es.size ep)(hm:RawDict s.heap d es ep)(hx:es[i]?=none)(hQ:∀h',Heap.ExtBut it s.heap h'->P none {s with heap:=h'}):wpAny (model prog w) A (pyNext (.ref it)) P E s:=by
 refine xea2 (id hit) fun o ho hc hd=>?_;refine xea2 hm fun od hod hcd hdd=>?_;unfold pyNext;refine zC (wpAny_attempt (wpAny_callSpecial?_slot (name:=Str.ofString "__next__") hit.typeIs PySem.F.slot_dict_keyiterator_next (wpAny_call_entry PySem.F.slot_dict_keyiterator_next hit.typeIs PySem.F.entry_dict_keyiterator_next ?_ (PySem.F.args_dict_keyiterator_next_1 _))));refine zC (zR ?_);refine zC ?_;refine zC ?_;first|refine zC (wpAny_typeNameOfWhole_keyiter hit.typeIs (zR ?_))|refine zC (wpAny_typeNameOf_keyiter hit.typeIs (zR ?_))
 refine zC (wpAny_fieldsOf ho hd ?_);have hown:Builtin.Dict_items.ownsTuple "dict_keyiterator"=false:=by decide
 rw[hown,zN Bool.false_ne_true];show wpAny _ _ (if(Value.ref d==Value.none)=true then _ else _) _ _ s;rw[zN (show¬((Value.ref d==Value.none)=true)from Bool.false_ne_true)];refine zC (zR ?_);refine zC (wpAny_dictEntries hod hdd ?_);rw[zN (by simp)];refine zC (zR ?_);refine zC (wpAny_dictEpoch hod hdd ?_);rw[zN (by simp)];refine zR ?_;have hge:es.size<=i:=by
  rcases Nat.lt_or_ge i es.size with h|h;.rw[Array.getElem?_eq_getElem h]at hx;cases hx
  .exact h
 dsimp only;rw[zN (show¬((i:Int)<0)from fun e=>lA 0x746025402008080650202 tT e),yY,Array.getElem?_eq_none hge];refine zC ?_;first|refine zC (wpAny_typeNameOfWhole_keyiter hit.typeIs (zR ?_))|refine zC (wpAny_typeNameOf_keyiter hit.typeIs (zR ?_))
 show wpAny _ _ (setField (.ref it) 0 .none>>=_) _ _ s;refine zC (wpAny_setField ho hd (by simp) ?_);show wpAny _ _ (newExc (.type "StopIteration") []>>=_) _ _ _;refine zC ?_;simp only[newExc,newTuple];refine zC (wpAny_newObj_type ?_ (by size_fits));refine zC (m:=firstArgMember _ _) (wpAny_of_eq (a:=Value.none) (by first|rfl|(simp only[firstArgMember];rfl)) ?_);refine wpAny_newObj_type ?_ (by size_fits);show wpAny _ _ (_>>=_) _ _ _;refine zC (wpAny_handled ?_);rw[show A.in1.handled=none from hh];refine zC (zR (wpAny_throw ?_));refine zC (wpAny_isInstance (T:="StopIteration") (b:=true) ⟨_,xB _ rfl,rfl⟩ isSubtype_stop ?_);exact zR (hQ _ (((Heap.SameBut.update ..).extBut.push _).push _))
theorem raw_walks(hh:A.handled=none)(I d:Addr)(hne:d≠I)(es:Array DictEntry)(ep:Nat):Walks prog w A I [I,d] [I] es.size (fun i v=>es[i]?.map (·.key)=some v) (fun i h=>h.IsKeyIter I d i es.size ep/\RawDict h d es ep)where
 sub:=fun b hb=>by simp at hb;simp[hb]
 frame:=fun _ _ _ st hk=>⟨st.1.at fun o e=>hk I (by simp) o e,let⟨o,ho,r⟩:=st.2;⟨o,hk d (by simp) o ho,r⟩⟩;item:=fun i s Q E hi st hQ=>by
  refine raw_item st.1 st.2 (e:=es[i]) (by simp[hi]) fun h' hit' hs'=>?_;exact hQ _ h' s.toks (by simp[hi]) ⟨hit',let⟨o,ho,r⟩:=st.2;⟨o,(hs'.2 d hne).trans ho,r⟩⟩ fun b o hb e=>hs'.extBut b o (fun h=>hb (by simp[h])) e
 done:=fun s Q E st hQ=>raw_end hh st.1 st.2 (by simp) fun h' he'=>hQ h' s.toks fun b o hb e=>he' b o (fun h=>hb (by simp[h])) e;self:=fun _ _ _ _ st hQ=>wpAny_pyIter_keyiter st.1 hQ
theorem raw_src(lo:(d==sysModules)=false):KdlSrc prog w "dict" d d es.size (fun i v=>es[i]?.map (·.key)=some v) (fun h=>RawDict h d es ep)where
 type:=fun _ hm=>hm.typeIs;there:=fun _ hm=>let⟨o,ho,_⟩:=hm;⟨Heap.lt_size ho,Heap.lt_size ho⟩;keep:=fun _ _ hm hk=>let⟨o,ho,r⟩:=hm;⟨o,hk d (.inl rfl) o ho,r⟩;notList:=by decide
 notTuple:=by decide
 hint:=fun _ _ _ _ hm hq=>kdl_hint_dict hm.typeIs hq;iter:=fun _ _ hh hm=>⟨_,_,(fun _ _ hq=>raw_iter lo hm hq),raw_walks hh _ d (Nat.ne_of_lt (let⟨o,ho,_⟩:=hm;Heap.lt_size ho)) es ep,⟨⟨_,xB _ rfl,rfl,rfl⟩,let⟨o,ho,r⟩:=hm;⟨o,Heap.get?_push_of_some _ ho,r⟩⟩⟩
variable{d:Nat}{es:Xs}
theorem vrs_of_get:∀{xs:List Val},vs.length=xs.length->(∀(i:Nat)(u:Value)(y:Val),vs[i]?=some u->xs[i]?=some y->VR h I n u y)->VRs h I n vs xs:=by
 induction vs with
 |nil=>intro xs hl _;cases xs with|nil=>exact .nil|cons=>cases hl
 |cons v vs ih=>intro xs hl hg;cases xs with|nil=>cases hl|cons x xs=>exact .cons (hg 0 _ _ rfl rfl) (ih (Nat.succ.inj hl) fun i u y a b=>hg (i+1) u y a b)
def srcOk(S:AS)(x:Val)(xs:List Val):Prop:=S.seqOf x=some xs\/∃t n kvs,x=.loc t n/\S.H t=some (n,.dictI kvs)/\xs=kvs.map (fun p=>.int p.1)
theorem collect_src{R:List Value->Shared->Prop}(hh:A.handled=none)(hS:SR B s S I)(hv:VR s.heap I S.n v x)(hx:srcOk S x xs)(hl:xs.length<=1000)(h:∀h' tk vs,(∀b o,s.heap.get? b=some o->h'.get? b=some o)->VRs h' I S.n vs xs->R vs {s with heap:=h',toks:=tk}):wpAny (model B.prog B.w) A (collect v) R (fun _ _=>False) s:=by
  have up:∀h':Heap,(∀b o,s.heap.get? b=some o->h'.get? b=some o)->Up s.heap I S.n h' I S.n:=fun h' hk=>⟨yO _,fun _ _ _=>rfl,fun a o e _ _=>hk a o e⟩;rcases hx with e|⟨t,n,kvs,rfl,e,rfl⟩
  . unfold AS.seqOf at e;split at e
    .cases e;refine xe2a2 (VR.tup_inv hv) fun _ _ e_2 g r=>?_;clear hv;subst e_2;have :=r.length;exact wpAny_collect_seq _ (.inr rfl) g rfl rfl (fun h' hk=>h h' s.toks _ hk (by simpa using r.up (up h' hk))) (by simp only[List.size_toArray,yW];exact lB 0x72610000683e33210060303030303031200 tT hl this)
    .refine xe2a2e3a3 (listAt_of hS hv e) fun t1 n1 e_2 k1 a1 i1 e1 e_7 w1 g1 r1=>?_;subst e_2;subst e_7;have l1:=r1.length;simp only[yF]at l1;exact wpAny_collect_seq _ (.inl rfl) g1 rfl rfl (fun h' hk=>h h' s.toks _ hk (r1.up (up h' hk))) (by rw[yW];exact lB 0x72610000683e33210060303030303031200 tT hl l1)
  . obtain⟨rfl,l⟩:=VR.loc_inv hv;refine xaea (hS.obj _ _ _ e) fun hi ps hd hp=>?_;have hd':s.heap.DictOf (PySem.intKind B.prog B.w) (I t n).id ps:=hi▸hd;obtain⟨ep,hda⟩:=hd'.dictAt;have pl:=hp.length;rw[zA]at hl;refine kdu_collect (kdl_dict (notSys (hi▸hS.new _ _ _ e))) hh hda (by rw[yW];exact lB 0x72610000683e33210060303030303031200 tT hl pl) fun h' tk acc hk hacc=>?_;refine h h' tk _ hk (vrs_of_get (by rw[yF,hacc.1,zA,pl]) fun i u y a b=>?_);rw[Array.getElem?_toList]at a;refine xe2a (hacc.2 i u a) fun k z h1 h2=>?_;rw[zX,yX]at b;refine xea b fun p b1 e_2=>?_;subst e_2;have hk':=hp.keys;have e1:(ps.map (·.1))[i]?=some k:=by rw[zX,h1];rfl
    rw[hk',zX,b1]at e1;simp only[Option.map_some,Option.some.injEq]at e1;obtain⟨t',rfl⟩:=Value.isInt_shape h2;rw[e1];exact .int _ _
theorem call_listT{kvs:List (List Int×Val)}(hh:A.handled=none)(hS:SR B s S I)(hL:LR B nc env s.heap I S μ)(hv:VR s.heap I S.n v (.loc t n))(e:S.H t=some (n,.dictT kvs))(q:newL (kvs.map fun p=>.tup (p.1.map .int)) S Q):EvS B A nc env (call (.type "list") [v]) μ s S I Q:=by
 obtain⟨hl,t',q⟩:=q;obtain⟨rfl,l⟩:=VR.loc_inv hv;refine xaea2 (hS.obj _ _ _ e) fun hi xs q_2 hex hp=>?_;refine xe3a5 q_2 fun o es ep ho h1 h2 h3 h4 h5=>?_;have hlen:=hp.length;rw[zA]at hl hlen;have hsz:es.size=xs.length:=by rw[<-yF,h3,zA]
 refine kdl_call (raw_src (es:=es) (ep:=ep) (notSys (hi▸hS.new _ _ _ e))) hh ⟨o,hi▸ho,h1,h2⟩ (by rw[yW];exact lC 0x72620002610200683e33210060303030303031200 tT hl hlen hsz) fun h' tk acc' c' hk hD hacc=>?_;refine EvQ.listG (t:=t') hS hL (size_none _) (vrs_of_get (by rw[yF,hacc.1,hsz,zA,hlen]) fun i u y a b=>?_) hk hD q;rw[Array.getElem?_toList]at a;have ha:es[i]?.map (·.key)=some u:=hacc.2 i u a;rw[<-Array.getElem?_toList,h3,zX,Option.map_map,yX]at ha;refine xea ha fun z hz e_2=>?_;subst e_2;rw[zX,yX]at b;refine xea b fun p hp1 e_2=>?_;subst e_2;have hmem:z∈xs:=yB hz;obtain⟨items,g⟩:=hex z hmem;refine xe3a3 (h4 z hmem) fun ob its m g1 _ g2 g3=>?_;rw[g]at g1;cases g1;cases g2;have hk:=hp.keys;have e1:((xs.map fun x=>(x.1,x.2.2)).map (·.1))[i]?=some z.1:=by rw[List.map_map,zX,hz];rfl
 rw[hk,zX,hp1]at e1;simp only[Option.map_some,Option.some.injEq]at e1;rw[e1];refine VR.tup g ?_;have :∀{ks:List Int}{vs:List Value},ItemsAre (PySem.intKind B.prog B.w) ks vs->VRs s.heap I S.n vs (ks.map .int):=by
  intro ks vs hq;induction hq with|nil=>exact .nil|cons a _ ih=>
   obtain⟨t',rfl⟩:=Value.isInt_shape a;exact .cons (.int _ _) ih
 simpa using this g3
theorem adopt_end{S₂:AS}{out:List Value}{c:Nat}(hS:SR B s₂ S₂ I₂)(hE:Ext (We env) s S I s₂ S₂ I₂)(hL:LR B nc env s₂.heap I₂ S₂ μ)(fD:Fix s₂ S₂ I₂ (D,seqObj "list" out.toArray c))(hb:B.hp.get? D=none)(hw:D≠env.locals)(hf:s.heap.get? D=none)(hx:VRs s₂.heap I₂ S₂.n out xs)(q:Q (.loc t S₂.n) (S₂.alloc t (.list xs))):EvQ B nc env μ s S I Q (.ref D) s₂:=by
 obtain⟨m,cm,F1,M1⟩:=hL;refine⟨_,_,_,q,hS.adopt (p:=⟨D,D⟩) fD.off hb ⟨rfl,out.toArray,c,fD.here,by simpa using hx.up .set⟩,hE.adopt (p:=⟨D,D⟩) hS.lt hf,⟨m,cm,F1.adopt hS.lt hw,M1.up .set⟩,?_⟩;have :=VR.loc (h:=s₂.heap) (I:=I₂.set t S₂.n ⟨D,D⟩) (n:=S₂.n+1) (t:=t) (v:=S₂.n) (xA _);rw[Interp.set_self]at this;exact this
theorem sorted_shell{kw:List (Str×Value)}(hh:A.handled=none)(hS:SR B s S I)(hL:LR B nc env s.heap I S μ)(hv:VR s.heap I S.n v x)(hx:srcOk S x xs)(hl:xs.length<=1000)(ha1:argsOk "sorted" ⟨[v],kw⟩)(ha2:∀x,argsOk "list.sort" ⟨[.ref x],kw⟩)(ht:∀x,Builtin.«list.sort» ⟨[.ref x],kw⟩=ksk_tree x f b)(go:∀D s₁ vs,SR B s₁ S I->Ext (We env) s S I s₁ S I->LR B nc env s₁.heap I S μ->(∀b o,s.heap.get? b=some o->s₁.heap.get? b=some o)->s.heap.get? D=none->Fix s₁ S I (D,seqObj "list" vs.toArray 0)->B.hp.get? D=none->D≠env.locals->¬Wf env D->VRs s₁.heap I S.n vs xs->wpAny (model B.prog B.w) A.in1.in1 (ksk_tree D f b) (fun fin s₂=>fin=.done (.ret .none)/\EvQ B nc env μ s S I Q (.ref D) s₂) (fun _ _=>False) s₁):EvS B A nc env (call (.builtin "sorted") [v] kw) μ s S I Q:=by
  obtain⟨m,cm,hF,hM⟩:=id hL;refine call_function_entry_kw kind_sorted plain_sorted entry_sorted ha1 ?_;unfold Builtin.«sorted»;refine zC (m:=checkCount "sorted" 1 1 _) (zR ?_);refine zC (collect_src hh hS hv hx hl fun h' tk vs hk hvs=>?_);have hlen:=hvs.length;refine zC (wpAny_newList ?_ (by rw[yW];exact lB 0x72610000683e33210060303030303031200 tT hl hlen));have hk2:∀b o,s.heap.get? b=some o->(h'.push (seqObj "list" vs.toArray 0)).get? b=some o:=fun b o e=>push_keep _ _ (hk b o e);refine xa3 (grow hS hF hM hk2 tk) fun S1 E1 F1 M1=>?_;have gD:(h'.push (seqObj "list" vs.toArray 0)).get? h'.objs.size=some (seqObj "list" vs.toArray 0):=xB _ rfl;have fD:s.heap.get? h'.objs.size=none:=by
    cases z:s.heap.get? h'.objs.size with|none=>rfl|some o=>have :=hk _ _ z;rw[size_none]at this;cases this
  have nf:¬Wf env h'.objs.size/\B.hp.get? h'.objs.size=none/\∀t v o',S.H t=some (v,o')->(I t v).cell≠h'.objs.size:=by
    refine⟨fun h=>?_,?_,fun t v o' e q=>?_⟩
    . rcases h with h|⟨n,hn,h⟩;.refine xe3a hF.ns fun oL _ _ hL _=>?_;rw[h,hL]at fD;cases fD
      .refine xea (hF.cell n _ hn h) fun oc hc _=>?_;rw[hc]at fD;cases fD
    .cases z:B.hp.get? h'.objs.size with|none=>rfl|some ob=>have :=hS.keep _ _ z;rw[fD]at this;cases this
    .refine xea (hS.shape e) fun ob h _=>?_;rw[q,fD]at h;cases h
  refine zC (wpAny_holding (wpAny_call_entry_kw PyProof.Rows.slot_list_sort ⟨_,gD,rfl⟩ PyProof.Rows.entry_list_sort ?_ (ha2 _)));show wpAny _ A.in1.in1 (Builtin.«list.sort» ⟨[.ref h'.objs.size],kw⟩) _ _ _;rw[ht];refine zB (go h'.objs.size {s with heap:=h'.push (seqObj "list" vs.toArray 0),toks:=tk} vs S1 E1 ⟨m,cm,F1,M1⟩ hk2 fD ⟨gD,nf.2.2⟩ nf.2.1 (fun q=>nf.1 (.inl q)) nf.1 (hvs.up ⟨yO _,fun _ _ _=>rfl,fun a o e _ _=>push_keep _ _ e⟩)) ?_ fun _ _ z=>z;rintro fin s₂⟨rfl,q⟩;exact⟨_,rfl,zR ⟨_,rfl,q⟩⟩
theorem in2_units(h:A.units+10<=9000):A.in1.in1.units<cLine:=by
 show A.units+1+1<cLine;unfold cLine;exact lA 0x7068323332204a20016c3a363220412041200 tT h
theorem call_sortedF{f:Fn}(G:Good B)(C:FC B A env d)(hS:SR B s S I)(hL:LR B nc env s.heap I S μ)(hv:VR s.heap I S.n v x)(hx:srcOk S x xs)(h3:xs.length<=3)(hap:keysApart key xs)(hk:∀y∈xs,Calls B d f [y] S fun r S'=>keyPair (key y) r/\S'=S)(q:Q (.loc t S.n) (S.alloc t (.list (sortK key xs)))):EvS B A nc env (call (.builtin "sorted") [v] [(Str.ofString "key",.ref (B.fa f))]) μ s S I Q:=by
 refine sorted_shell (f:=.ref (B.fa f)) (b:=false) C.handled hS hL hv hx (by exact lA 0x70632000683e33200 tT h3) (ksk_s1 _ _) (fun _=>ksk_l1 _ _) (fun D=>ksk_t1 _ D) fun D s₁ vs S1 E1 L1 k1 fD xD hb hw hwf hvs=>?_;refine sort_tree (kd:=.pair) (zs:=[]) (key:=key) (in2_units (by have :=C.units;exact lB 0x70683233322042332041443621000068323332204a200 tT this)) S1 hvs xD hb h3 (by simp) (by simp) (fun _=>hap) (fun y hy=>?_) fun s₂ I₂ out c S2 E2 x2 r2=>⟨rfl,?_⟩
 .intro u s' I' hS' hu _ _;refine wpAny_call (codeAny_mono (hk y hy _ s' I' [u] C.rm2 hS' (.cons hu .nil)) ?_);clear hS hL hv hx hk q S1 E1 L1 xD hvs hS' hu a a_1;intro r s₂ q_r;refine xe4a4 q_r fun k kv S₂ I₂ e_4 q_5 h1 h2 h3=>?_;subst e_4;obtain⟨hkv,rfl⟩:=q_5;exact⟨kv,I₂,h1,h2,h3,hkv⟩
 .have E3:Ext (We env) s S I s₂ S I₂:=((E1.weaken (W':=fun a=>We env a\/a=D) fun a h=>.inl (.inl h)).trans (E2.weaken fun a h=>.inl (.inr h))).weaken fun a h=>h.elim .inl fun z=>.inr (by rw[z];exact fD);exact adopt_end S2 E3 (L1.ext S1 E2 fun a ha z=>hwf (z▸ha)) x2 hb hw fD r2 q
theorem insK_sorted(key:Val->Int)(x:Val)(l:List Val):l.Pairwise (fun a b=>key a<=key b)->(insK key x l).Pairwise (fun a b=>key a<=key b):=by
 induction l with|nil=>exact fun _=>List.pairwise_singleton ..|cons y r ih=>
  intro h;obtain⟨h1,h2⟩:=yT.mp h;rw[insK_cons];by_cases c:key x<=key y
  .rw[zU c];exact yT.mpr ⟨fun z hz=>(zL.mp hz).elim (fun e=>e▸c) fun hz=>Int.le_trans c (h1 z hz),h⟩
  .rw[zN c];exact yT.mpr ⟨fun z hz=>(zL.mp ((insK_perm key x r).mem_iff.mp hz)).elim (fun e=>e▸Int.le_of_lt (Int.lt_of_not_ge c)) (h1 z),ih h2⟩
theorem sortK_sorted(key:Val->Int)(l:List Val):(sortK key l).Pairwise (fun a b=>key a<=key b):=by
 induction l with|nil=>exact .nil|cons x r ih=>exact insK_sorted key x _ ih
theorem sorted_unique(key:Val->Int){l:List Val}:∀{m:List Val},l.Perm m->l.Pairwise (fun a b=>key a<=key b)->m.Pairwise (fun a b=>key a<=key b)->(∀a∈l,∀b∈l,key a=key b->a=b)->l=m:=by
 induction l with|nil=>exact fun hp _ _ _=>(List.nil_perm.mp hp).symm|cons a l ih=>
  intro m hp h1 h2 hu;cases m with|nil=>exact absurd hp.length_eq (Nat.succ_ne_zero _)|cons b m=>
   have hb:=hp.mem_iff.mpr (zF ..);have x1:key a<=key b:=(zL.mp hb).elim (fun e=>e▸Int.le_refl _) ((yT.mp h1).1 b);have x2:key b<=key a:=(zL.mp (hp.mem_iff.mp (zF ..))).elim (fun e=>e▸Int.le_refl _) ((yT.mp h2).1 a);cases hu a (zF ..) b hb (Int.le_antisymm x1 x2);exact zG (a::.) (ih hp.cons_inv (yT.mp h1).2 (yT.mp h2).2 fun x hx y hy=>hu x (zI _ hx) y (zI _ hy))
noncomputable def intOf:Value->Int|.int i _=>i|_=>0
noncomputable def absKey:Val->Int|.int i=>(i.natAbs:Int)|_=>0
theorem call_sortedAbs{ns:List Int}(C:FC B A env d)(hS:SR B s S I)(hL:LR B nc env s.heap I S μ)(hv:VR s.heap I S.n v x)(hx:srcOk S x (ns.map .int))(h6:ns.length<60)(hap:ns.Pairwise fun a b=>a.natAbs≠b.natAbs)(q:Q (.loc t S.n) (S.alloc t (.list (sortK absKey (ns.map .int))))):EvS B A nc env (call (.builtin "sorted") [v] [(Str.ofString "key",.builtin "abs")]) μ s S I Q:=by
  refine sorted_shell (f:=.builtin "abs") (b:=false) C.handled hS hL hv hx (by rw[zA];exact lA 0x716c332000683e33200 tT h6) (ksk_s1 _ _) (fun _=>ksk_l1 _ _) (fun D=>ksk_t4 _ D) fun D s₁ vs S1 E1 L1 k1 fD xD hb hw hwf hvs=>?_;have vlen:=hvs.length;rw[zA]at vlen;obtain⟨m,cm,F1,M1⟩:=id L1;have vint:∀(i:Nat)(u:Value),vs[i]?=some u->∃(n:Int)(t:Tok),u=Value.int n t/\ns[i]?=some n:=fun i u hu=>by
    have hi:i<ns.length:=by
      rcases Nat.lt_or_ge i vs.length with h|h;.exact lC 0x7162000261020161000 tT vlen h
      .rw[yJ h]at hu;cases hu
    refine xea (hvs.get (i:=i) (y:=.int ns[i]) (by rw[zX,zH hi];rfl)) fun u' a b=>?_;rw[hu]at a;cases a;clear hu;obtain⟨t,rfl⟩:=VR.int_inv b;exact⟨_,t,rfl,by rw[zH hi]⟩
  refine ksk_sort (kz:=ns.map fun i=>(i.natAbs:Int)) (S1.Fr F1) (news_rest (ex:=[D])) xD.here hw hb (fun p hp q=>?_) (by rw[zA];exact vlen.symm) (by exact lB 0x726100016c3321016034200 tT h6 vlen) (fun i u k hu hk h tk own F N=>?_) fun h' tk out c F' N' hout=>⟨rfl,?_⟩
  .have :=mem_rest.mp (show(p.1,p.2)∈_ from hp);exact this.2.2.1 (by simp[q])
  . refine xe2a (vint i u hu) fun n t' e_2 hn=>?_;subst e_2;rw[zX,hn]at hk;simp only[Option.map_some,Option.some.injEq]at hk;refine call_abs_int fun u tk=>?_;have e:(if n<0 then-n else n)=k:=by rw[<-hk];split<;>lia
    rw[e];exact KskEnd.intro F N fun p hp=>hp
  . -- out
    have kept:∀a o,s₁.heap.get? a=some o->a≠env.locals->a≠D->h'.get? a=some o:=fun a o z h1 h2=>rest_kept F' S1.keep (fun p hp=>(N' p (zI _ hp)).1) a o z h1 (by simpa using h2);have hD:=(N' _ (zF ..)).1;have old:∀a,h'.get? a=none->s₁.heap.get? a=none:=fun a z=>by
      by_cases q1:a=D;.rw[q1,hD]at z;cases z
      . by_cases q2:a=env.locals
        .refine xe3a F'.ns fun oL _ _ hL _=>?_;rw[q2,hL]at z;cases z
        .cases r:s₁.heap.get? a with|none=>rfl|some o=>rw[kept a o r q2 q1]at z;cases z
    have we:=F1.wokE;obtain⟨S2,E2⟩:=S1.kept (s':={s₁ with heap:=h',toks:=tk}) (W:=fun a=>a=env.locals\/a=D) (fun a o e hw'=>kept a o e (fun q=>hw' (.inl q)) fun q=>hw' (.inr q)) (fun a h=>h.elim (fun z=>we.base a z) fun z=>z▸hb) (fun a o h e=>h.elim (fun z=>we.data a o z e) fun z=>by rw[z,xD.here]at e;cases e;exact .list rfl rfl) (fun t v o e h=>h.elim (fun z=>we.live t v o e z) fun z=>xD.off t v o e z) old rfl rfl;have E3:Ext (We env) s S I {s₁ with heap:=h',toks:=tk} S I:=((E1.weaken (W':=fun a=>a=env.locals\/a=D) fun a h=>.inl (.inl h)).trans E2).weaken fun a h=>h.elim (fun z=>.inl z) fun z=>.inr (by rw[z];exact fD);have L2:LR B nc env h' I S μ:=by
      refine⟨m,cm,⟨F'.ns,F1.above,fun n c hn e=>?_,F1.apart,F1.cells,F1.offL⟩,M1.up E2.up⟩;refine xea (F1.cell n c hn e) fun oc g1 g2=>?_;exact⟨oc,kept _ _ g1 (fun q=>(F1.cells n c hn (mem_of_lookup e)).1 q.symm) (fun q=>hwf (.inr ⟨n,hn,q▸e⟩)),g2⟩
    refine xea2 hout fun ps hp ho hs=>?_;simp only[Bool.false_eq_true,if_false]at hs;have hmem:∀p∈ps,∃n t',p.2=.int n t'/\p.1=(n.natAbs:Int)/\n∈ns:=fun p hp'=>by
      have hz:=hp.mem_iff.mp hp';obtain⟨i,hi,he⟩:=yI hz;rw[List.length_zip,zA]at hi;have hi1:i<ns.length:=by exact lC 0x7061020162000161000 tT hi (Nat.min_le_left _ _)
      have hi2:i<vs.length:=by exact lC 0x71620007f7f252010161000 tT vlen hi1
      rw[List.getElem_zip]at he;refine xe2a (vint i vs[i] (by rw[zH hi2])) fun n t' h1 h2=>?_;rw[zH hi1]at h2;simp only[Option.some.injEq]at h2;refine⟨n,t',?_,?_,h2▸List.getElem_mem hi1⟩;.rw[<-he];exact h1
      .rw[<-he];simp[h2]
    have hvr:∀l:List (Int×Value),(∀p∈l,∃n t',p.2=.int n t'/\p.1=(n.natAbs:Int)/\n∈ns)->VRs h' I S.n (l.map Prod.snd) (l.map fun p=>.int (intOf p.2)):=by
      intro l;induction l with|nil=>intro _;exact .nil|cons p r ih=>
        intro h;refine xe2a (h p (by simp)) fun n t' e _=>?_;rw[List.map_cons,List.map_cons,e];exact .cons (.int _ _) (ih fun z hz=>h z (by simp[hz]))
    have eq:(ps.map fun p=>Val.int (intOf p.2))=sortK absKey (ns.map .int):=by
      refine sorted_unique absKey ?_ ?_ (sortK_sorted absKey _) ?_
      . refine List.Perm.trans ?_ (sortK_perm absKey _).symm;have h1:=hp.map fun p=>Val.int (intOf p.2);refine h1.trans (List.Perm.of_eq ?_);apply List.ext_getElem?;intro i;rw[zX,zX];rcases Nat.lt_or_ge i ns.length with hi|hi
        . have hi2:i<vs.length:=by exact lC 0x71620007f7f252010161000 tT vlen hi
          have hz:i<((ns.map fun i=>(i.natAbs:Int)).zip vs).length:=by rw[List.length_zip,zA];lia
          rw[zH hz,List.getElem_zip,zH hi];refine xe2a (vint i vs[i] (by rw[zH hi2])) fun n t' h1 h2=>?_;rw[zH hi]at h2;simp only[Option.some.injEq]at h2;show some (Val.int (intOf vs[i]))=some (Val.int ns[i]);rw[h1,h2];rfl
        .rw[yJ (by rw[List.length_zip,zA];exact lC 0x7062000061020061000 tT hi (Nat.min_le_left _ _)),yJ hi];rfl
      .rw[List.pairwise_map];refine hs.imp_of_mem fun{a b}ha hb' hab=>?_;refine xe2a2 (hmem a ha) fun n1 t1 e1 f1 _=>?_;refine xe2a2 (hmem b hb') fun n2 t2 e2 f2 _=>?_;show absKey (.int (intOf a.2))<=absKey (.int (intOf b.2));rw[e1,e2];show(n1.natAbs:Int)<=(n2.natAbs:Int);rw[<-f1,<-f2];exact hab
      . intro y hy z hz hyz;refine xea (yE.mp hy) fun p hp1 e_2=>?_;subst e_2;refine xea (yE.mp hz) fun p' hp2 e_2=>?_;subst e_2;refine xe2a2 (hmem p hp1) fun n1 t1 e1 f1 g1=>?_;clear f1;refine xe2a2 (hmem p' hp2) fun n2 t2 e2 f2 g2=>?_;rw[e1,e2]at hyz⊢;have hyz':n1.natAbs=n2.natAbs:=by
          have :((n1.natAbs:Nat):Int)=((n2.natAbs:Nat):Int):=hyz;exact lB 0x7817f55540210540200261000 tT this
        by_cases hne:n1=n2;.rw[show intOf (.int n1 t1)=n1 from rfl,show intOf (.int n2 t2)=n2 from rfl,hne]
        . exfalso;clear e1 e2 f2;obtain⟨i,hi,rfl⟩:=yI g1;clear hyz;obtain⟨j,hj,rfl⟩:=yI g2;have pi:=List.pairwise_iff_getElem.mp hap;have hij:i≠j:=fun q=>hne (by subst q;rfl);rcases Nat.lt_or_gt_of_ne hij with z|z;.exact pi i j hi hj z hyz'
          .exact pi j i hj hi z hyz'.symm
    refine adopt_end (s₂:={s₁ with heap:=h',toks:=tk}) (out:=out.toList) (c:=c) S2 E3 L2 ⟨by simpa using hD,xD.off⟩ hb hw fD ?_ q;rw[ho,<-eq];exact hvr ps hmem
theorem AS.del_le(S:AS)(t:Tag):(S.del t).Le S:=⟨rfl,fun u p e=>by
 simp only[AS.del]at e;split at e;.cases e
 .exact e⟩
theorem SR.back{o:HObj}(hS:SR B s S I)(e:S.H t=some (n,o))(h2:SR B s₂ (S.del t) I₂)(up:Up s.heap I S.n s₂.heap I₂ S.n)(off:∀t' v o',(S.del t).H t'=some (v,o')->(I₂ t' v).cell≠(I t n).cell)(ho:OR B s₂.heap I₂ S.n (I₂ t n) o'):SR B s₂ (S.put t n o') I₂:=by
  have hi:I₂ t n=I t n:=up.same _ _ (hS.lt _ _ _ e);have cases_:∀t' v' o1,(S.put t n o').H t'=some (v',o1)->(t'=t/\v'=n/\o1=o')\/(t'≠t/\(S.del t).H t'=some (v',o1)):=fun t' v' o1 e=>by
    simp only[AS.put]at e;by_cases q:t'=t;.rw[zU q]at e;cases e;exact .inl ⟨q,rfl,rfl⟩
    .rw[zN q]at e;exact .inr ⟨q,by simp only[AS.del,zN q];exact e⟩
  refine⟨h2.keep,fun t' v' o1 e1=>?_,fun t' v' o1 e1=>?_,fun t1 v1 o1 t2 v2 o2 e1 e2 q=>?_,fun t' v' o1 e1=>?_,h2.gens,h2.os⟩
  . clear off ho hi;rcases cases_ _ _ _ e1 with⟨rfl,rfl,rfl⟩|⟨_,e'⟩;.exact hS.lt _ _ _ e
    .exact h2.lt _ _ _ e'
  . clear e off hi;rcases cases_ _ _ _ e1 with⟨rfl,rfl,rfl⟩|⟨_,e'⟩;.exact ho
    .exact h2.obj _ _ _ e'
  . clear e ho;rcases cases_ _ _ _ e1 with⟨rfl,rfl,rfl⟩|⟨h1,e1'⟩<;>rcases cases_ _ _ _ e2 with⟨rfl,rfl,rfl⟩|⟨h3,e2'⟩;.rfl
    .rw[hi]at q;exact absurd q.symm (off _ _ _ e2')
    .rw[hi]at q;exact absurd q (off _ _ _ e1')
    .exact h2.inj _ _ _ _ _ _ e1' e2' q
  . clear off ho;rcases cases_ _ _ _ e1 with⟨rfl,rfl,rfl⟩|⟨_,e'⟩;.rw[hi];exact hS.new _ _ _ e
    .exact h2.new _ _ _ e'
theorem evalArgs0_kw{keywords:List (Option Str×Sem Value)}{P:Args->Shared->Prop}(hall:keywords.all (·.1.isSome)=true)(h:wpAny (model B.prog B.w) A (evalAll (keywords.map (·.2))) (fun kvs s₂=>P ⟨[],(keywords.filterMap (·.1)).zip kvs⟩ s₂) (fun _ _=>False) s):wpAny (model B.prog B.w) A (evalArgs f true [] keywords) P (fun _ _=>False) s:=by
 unfold evalArgs;show wpAny (model B.prog B.w) A (spliced []>>=_) _ _ s;refine zC (zR (zC (zR ?_)));refine wpAny_holding ?_;rw[zU hall];refine zC (zB h (fun kvs s₂ h₂=>?_) fun _ _ x=>x);exact zC (zR (zR h₂))
variable{f:Fn}
theorem height_free{a:At}(h:a.nm=Fn.t_height.nm):Fn.t_height.at=some a:=(Fn.at_of .t_height).symm.trans (h▸At.ofNm_nm a)
set_option tactic.hygienic true in theorem ev_sortBy{self:Expr}{h kw kw':Str}{hp kp kp' bp:Pos}{bn:Nat}(G:Good B)(C:FC B A env d)(hn:nm="sort")(hh:h="height")(hk1:kw="key")(hk2:kw'="reverse")(hb:noCall0 o=true)(hbs:noCall0 self=true)(hpp:(apos.endLine==pos.line)=true)(he:EvJ B A nc env (eval o env) μ S fun v S=>(∃t n xs,v=.loc t n/\S.H t=some (n,.list xs))/\EvJ B A nc env (eval self env) μ S fun o S=>∃t n xs,∃key:Val->Int,v=.loc t n/\S.H t=some (n,.list xs)/\xs.length<=3/\isInst o .t_height S/\(∀x∈xs,Calls B d .t_height [o,x] (S.del t) fun r S'=>r=.int (key x)/\S'=S.del t)/\Q .none (S.put t n (.list (sortK (fun x=>-key x) xs)))):EvJ B A nc env (eval (.Call (.Attribute o nm apos) [] [⟨some kw,.Attribute self h hp,kp⟩,⟨some kw',.Constant (.bool true) bn bp,kp'⟩] pos) env) μ S Q:=by
  subst hn hh hk1 hk2;intro s I hS hL;refine methodKw_xs hb (by simp) (by rfl) hpp (zB (he s I hS hL) ?_ fun _ _ z=>z);intro v s₁ q_r pl;obtain⟨x,S₁,I₁,⟨⟨t,n,xs0,rfl,e0⟩,q⟩,hS₁,hE₁,hL₁,hv⟩:=q_r;refine find_list hS₁ hv e0 PyProof.Rows.slot_list_sort PySem.F.type_list_sort ?_;refine callWith_builtin_kwB (by rfl) (by rfl) (evalArgs0_kw (by rfl) ?_);refine kws_cons ?_;show wpAny _ A (do
  let o'<-attributeBase self "height" env (eval self env);standAt hp.atName let r<-holding [o'] (getAttr o' "height" true);letTemporaryGo self o' r;pure r) _ _ s₁;rw[base_of hbs];refine zC (zB (q s₁ I₁ hS₁ hL₁) ?_ fun _ _ z=>z);clear e0 q;intro w s₂ q_r;obtain⟨y,S₂,I₂,⟨t',n',xs,key,e',e,h3,hi,hk,q⟩,hS₂,hE₂,hL₂,hw⟩:=q_r;cases e';refine zC (wpAny_standAt (zC (wpAny_holding ?_)));have hv₂:=hv.up hE₂.up;clear hv;obtain⟨rfl,lt⟩:=VR.loc_inv hv₂;obtain@⟨ts,ns,c,at_,eo,es,hc,ha⟩:=hi;subst eo;refine xe2a3 (inst_at hS₂ hw es rfl) fun es' ep e_2 J hcell hkr=>?_;subst e_2;obtain⟨mm,cm,hF,hM⟩:=id hL₂;obtain⟨g1,g2⟩:=G.meth c .t_height hc;refine kbm_bound (hS₂.Fr hF) B.inK (news_rest (ex:=[])) J g2 (B.hasD c) g1 (G.isF .t_height) (G.bound .t_height).1 (G.bound .t_height).2 (by decide+kernel) (hkr.free fun a hz w=>hz (ha a (height_free w))) fun qa h' F' N' _=>?_;refine zC (wpAny_letTemporaryGo (zR ?_));refine kws_cons (wpAny_Constant_bool (kws_nil ?_));refine xa4 (kit_new (news:=[_]) hS₂ hF hM F' N' (s₂.toks+1)) fun S3 E3 F3 M3 k3=>?_;refine xa2 (N' _ (zF ..)) fun n1 n2 n3=>?_;have offq:∀t v o',S₂.H t=some (v,o')->(I₂ t v).cell≠qa:=fun t v o' e q=>by
    refine xea (S3.shape e) fun ob hob hsh=>?_;rw[show({s₂ with heap:=h',toks:=s₂.toks+1}:Shared).heap.get? (I₂ t v).cell=h'.get? (I₂ t v).cell from rfl,q,n1]at hob;cases hob;rcases hsh with⟨hsh,_⟩|⟨hsh,_⟩;.exact absurd (show Value.type "method"=Value.type "list"from hsh) (by decide)
    .exact absurd (show Value.type "method"=Value.type "dict"from hsh) (by decide)
  refine xae2a (S3.obj _ _ _ e) fun hid items epo g hx=>?_;have hxl:=hx.length;simp only[yF]at hxl;have gid:h'.get? (I₂ t n).id=some (listOf items epo):=hid▸g;refine wpAny_call_entry_kw PyProof.Rows.slot_list_sort ⟨_,gid,rfl⟩ PyProof.Rows.entry_list_sort ?_ (ksk_l2 _ _ _);show wpAny _ A.in1 (Builtin.«list.sort» ⟨[.ref (I₂ t n).id],[(Str.ofString "key",.ref qa),(Str.ofString "reverse",.bool true)]⟩) _ _ _;rw[ksk_t2];have Sd:SR B {s₂ with heap:=h',toks:=s₂.toks+1} (S₂.del t) I₂:=S3.le (AS.del_le S₂ t);have offa:∀t' v o',(S₂.del t).H t'=some (v,o')->(I₂ t' v).cell≠(I₂ t n).id:=fun t' v o' e' q=>by
    have h1:=(AS.del_le S₂ t).2 _ _ e';rw[hid]at q;have :=S3.inj _ _ _ _ _ _ h1 e q;clear e hk hid g gid Sd;subst this;simp[AS.del]at e'
  have hqa:qa≠(I₂ t n).id:=fun q=>offq t n _ e (hid▸q.symm);refine sort_tree (kd:=.one) (zs:=[(qa,methodObj (.ref (B.fa .t_height)) (.ref (I₂ ts ns).id))]) (key:=key) (vs:=items.toList) (n:=epo) (by have :=C.units;show A.units+1<cLine;unfold cLine;exact lB 0x7068323332204233204144362100016c3a36322041200 tT this) Sd hx ⟨by simpa using gid,offa⟩ (hid▸S3.new _ _ _ e) h3 (fun z hz=>by rw[zD]at hz;subst hz;exact⟨n1,fun t' v o' e'=>offq t' v o' ((AS.del_le S₂ t).2 _ _ e')⟩) (fun z hz=>by rw[zD]at hz;subst hz;exact hqa) (fun h=>by cases h) (fun z hz=>?_) fun s₄ I₄ out c S4 E4 x4 r4=>?_
  . intro u s' I' hS' hu hz' up;have hq:=hz' _ (zD.mpr rfl);have hlt:ns<S₂.n:=hS₂.lt _ _ _ es;have vo:VR s'.heap I' (S₂.del t).n (.ref (I₂ ts ns).id) (.loc ts ns):=by
      rw[<-up.same ts ns hlt];exact .loc hlt
    have rm:Rm A.in1 d:=⟨by have :=C.depth;show A.depth+_<=_;exact lB 0x70643833204520414a21000064383320414a21000 tT this,by have :=C.units;show A.units+1+_<=_;exact lB 0x7068323332204233204144362100006832333220414436210041200 tT this,C.handled⟩;refine wpAny_call (method_call hq.here (codeAny_mono (hk z hz _ s' I' [.ref (I₂ ts ns).id,u] rm hS' (.cons vo (.cons hu .nil))) ?_));intro r s₅ q_r;refine xe4a4 q_r fun k kv S₅ I₅ e_4 q_5 h1 h2 h3=>?_;subst e_4;obtain⟨hkv,rfl⟩:=q_5;exact⟨kv,I₅,h1,h2,h3,hkv⟩
  . refine⟨_,rfl,?_⟩;have hI:I₄ t n=I₂ t n:=E4.up.same _ _ lt;have S5:=SR.back (o':=.list (sortK (fun x=>-key x) xs)) S3 e S4 E4.up (fun t' v o' e' q=>x4.off t' v o' e' (by rw[q,hid])) ⟨by rw[hI];exact hid,out.toArray,c,by rw[hI,<-hid];exact x4.here,by rw[List.toList_toArray];exact r4⟩;have E5:Ext (We env) {s₂ with heap:=h',toks:=s₂.toks+1} S₂ I₂ s₄ (S₂.put t n (.list (sortK (fun x=>-key x) xs))) I₄:=by
      refine⟨E4.up,fun a o ea hw hl=>E4.keep a o ea (fun z=>hl t n _ e (by rw[z,hid])) fun t' v o' e'=>hl t' v o' ((AS.del_le S₂ t).2 _ _ e'),E4.old,fun t' v o' e'=>?_⟩;simp only[AS.put]at e';by_cases z:t'=t
      .rw[zU z]at e';clear q hk hid g gid Sd offa hqa S4 E4 x4 r4 S5;cases e';subst z;exact .inl ⟨⟨_,e⟩,hI⟩
      . rw[zN z]at e';rcases E4.fresh t' v o' (by simp only[AS.del,zN z];exact e')with⟨⟨o0,h0⟩,hI'⟩|h0;.exact .inl ⟨⟨o0,(AS.del_le S₂ t).2 _ _ h0⟩,hI'⟩
        .exact .inr h0
    have L5:LR B nc env s₄.heap I₄ (S₂.put t n (.list (sortK (fun x=>-key x) xs))) μ:=by
      have FW:∀a,Wf env a->a≠(I₂ t n).id:=fun a hw q=>by
        rcases hw with hw|⟨nn,hn,hw⟩;.exact F3.offL t n _ e (by rw[<-hid,<-q];exact hw)
        .exact S3.offCell e (F3.cell nn a hn hw) (by rw[<-hid,q])
      have L4:LR B nc env s₄.heap I₄ (S₂.del t) μ:=LR.ext (s:={s₂ with heap:=h',toks:=s₂.toks+1}) Sd ⟨mm,cm,⟨F3.ns,F3.above,F3.cell,F3.apart,F3.cells,fun t' v o' e'=>F3.offL t' v o' ((AS.del_le S₂ t).2 _ _ e')⟩,M3⟩ E4 fun a ha q=>FW a ha q;clear q hk hid g gid Sd offa hqa S4 E4 x4 r4 S5 E5 FW;obtain⟨m4,cm4,F4,M4⟩:=L4;refine⟨m4,cm4,⟨F4.ns,F4.above,F4.cell,F4.apart,F4.cells,fun t' v o' e'=>?_⟩,M4⟩;simp only[AS.put]at e';by_cases z:t'=t;.rw[zU z]at e';clear F4 M4;cases e';subst z;rw[hI];exact F3.offL _ _ _ e
      .rw[zN z]at e';exact F4.offL t' v o' (by simp only[AS.del,zN z];exact e')
    exact⟨.none,_,I₄,q,S5,((hE₁.trans hE₂).trans E3).trans E5,L5,.none⟩
variable{o:X}
theorem a2{a:Bool}(h:(a&&b)=true):a=true/\b=true:=by cases a<;>cases b<;>first|exact⟨rfl,rfl⟩|cases h
theorem a3{a c:Bool}(h:(a&&b&&c)=true):a=true/\b=true/\c=true:=⟨(a2 (a2 h).1).1,(a2 (a2 h).1).2,(a2 h).2⟩
theorem a4{a c d:Bool}(h:(a&&b&&c&&d)=true):a=true/\b=true/\c=true/\d=true:=⟨(a2 (a2 (a2 h).1).1).1,(a2 (a2 (a2 h).1).1).2,(a2 (a2 h).1).2,(a2 h).2⟩
variable{b:Sts}
def TrJ(B:Base)(A:Around)(nc:NC)(env:Env)(e:Expr)(μ:Mu)(S:AS)(K:Bool->AS->Prop):Prop:=∀s I,SR B s S I->LR B nc env s.heap I S μ->wpAny (model B.prog B.w) A (isTrue e env (eval e env)) (fun b s'=>∃S' I',K b S'/\SR B s' S' I'/\Ext (We env) s S I s' S' I'/\LR B nc env s'.heap I' S' μ) (fun _ _=>False) s
abbrev onQ(K:Bool->AS->Prop):VQ:=fun v S=>onB v fun b=>K b S
def SndX(B:Base)(x:X):Prop:=∀A nc env d r,FC B A env d->chkX env.scope nc x r=true->(∀μ S Q,wpX (WEd B d) x μ S Q->EvJ B A nc env (eval (toE x r) env) μ S Q)/\(∀μ S K,wpX (WEd B d) x μ S (onQ K)->TrJ B A nc env (toE x r) μ S K)
def SndXs(B:Base)(x:Xs):Prop:=∀A nc env d r,FC B A env d->chkXs env.scope nc x r=true->(∀e∈toEs x r,tame e=true)/\∀pos μ S Q,wpXs (WEd B d) x μ S Q->EvsJ B A nc env (spliced (backTo pos (starEach (toEs x r) env))) μ S Q
def SndSr(B:Base)(x:Sr):Prop:=∀A nc env d tg r,FC B A env d->chkSr env.scope nc x tg r=true->tame (toSr x r)=true/\∀μ S K,wpSr (WEd B d) x μ S K->∀s I,SR B s S I->LR B nc env s.heap I S μ->wpAny (model B.prog B.w) A (eval (toSr x r) env) (fun x s₁=>wpAny (model B.prog B.w) A (pyIter x) (SrQ B A nc env tg μ s S I K) (fun _ _=>False) s₁) (fun _ _=>False) s
theorem onB_elim{K:Bool->Prop}(hv:VR s.heap I S.n v x)(h:onB x K):∃b,v=.bool b/\K b:=by
 cases hv<;>first|exact h.elim|exact⟨_,rfl,h⟩
variable{x:Str}
theorem tr_plain{K:Bool->AS->Prop}(h:EvJ B A nc env (eval e env) μ S (onQ K))(he:isTrue e env (eval e env)=(do let v<-eval e env;standAt e.pos;holding [v] (truthy v))):TrJ B A nc env e μ S K:=by
 intro s I hS hL;refine isTrue_plain (zB (h s I hS hL) ?_ fun _ _ z=>z) he;rintro v s₁⟨x,S₁,I₁,q,hS₁,hE₁,hL₁,hv⟩;refine xea (onB_elim hv q) fun b e_1 q=>?_;clear hv;subst e_1;exact wpAny_truthy_bool ⟨S₁,I₁,q,hS₁,hE₁,hL₁⟩
theorem plain_pair{x:X}(hev:∀μ S Q,wpX (WEd B d) x μ S Q->EvJ B A nc env (eval e env) μ S Q)(he:isTrue e env (eval e env)=(do let v<-eval e env;standAt e.pos;holding [v] (truthy v))):(∀μ S Q,wpX (WEd B d) x μ S Q->EvJ B A nc env (eval e env) μ S Q)/\(∀μ S K,wpX (WEd B d) x μ S (onQ K)->TrJ B A nc env e μ S K):=⟨hev,fun μ S K q=>tr_plain (hev _ _ _ q) he⟩
theorem BoolOp_one'{op:BoolOp}(h:EvJ B A nc env (eval e env) μ S Q):EvJ B A nc env (eval (.BoolOp op [e] pos) env) μ S Q:=fun s I hS hL=>BoolOp_one (h s I hS hL)
theorem TrJ.tail{K:Bool->AS->Prop}{t:Sem Bool}(e1:Ext (We env) s S I s₁ S₁ I₁)(h:wpAny (model B.prog B.w) A t (fun b s'=>∃S' I',K b S'/\SR B s' S' I'/\Ext (We env) s₁ S₁ I₁ s' S' I'/\LR B nc env s'.heap I' S' μ) (fun _ _=>False) s₁):wpAny (model B.prog B.w) A t (fun b s'=>∃S' I',K b S'/\SR B s' S' I'/\Ext (We env) s S I s' S' I'/\LR B nc env s'.heap I' S' μ) (fun _ _=>False) s₁:=by
 refine zB h ?_ fun _ _ z=>z;intro b s' q_r;refine xe2a3 q_r fun S' I' q a c f=>?_;exact⟨S',I',q,a,e1.trans c,f⟩
theorem kind_eq{k:NameKind}(h:kindIs env.scope x k=true):env.kindOf x=some k:=by simpa[kindIs,Env.kindOf]using h
set_option tactic.hygienic true in theorem s_lc(i:Nat):SndX B (.lc i):=by
 intro A nc env d r C h;change isLc env.scope nc i (r.1 i)=true at h;simp only[isLc,yN,Bool.or_eq_true,Bool.not_eq_true',yG]at h;obtain⟨⟨⟨⟨h1,h2⟩,h3⟩,h4⟩,h5⟩:=h;exact plain_pair (fun μ S Q q=>by
    change(match μ[i]? with|some (some v)=>Q v S|_=>False)at q;split at q
    . rename_i v hv;refine ev_local C (by simpa using h3) h1 ?_ h4 h5 hv q;rcases h2 with(h2|h2)|h2;.exact .inl (kind_eq h2)
      .exact .inr (.inl (kind_eq h2))
      .exact .inr (.inr (kind_eq h2))
    .exact q.elim) rfl
theorem s_none:SndX B .none:=fun A nc env d r C h=>plain_pair (fun μ S Q q=>ev_none q) rfl
theorem s_tru:SndX B .tru:=fun A nc env d r C h=>plain_pair (fun μ S Q q=>ev_bool q) rfl
theorem s_fls:SndX B .fls:=fun A nc env d r C h=>plain_pair (fun μ S Q q=>ev_bool q) rfl
theorem s_int(i:Int):SndX B (.int i):=fun A nc env d r C h=>plain_pair (fun μ S Q q=>ev_int q) rfl
theorem s_str(i:Str):SndX B (.str i):=fun A nc env d r C h=>plain_pair (fun μ S Q q=>ev_str q) rfl
theorem isGl_of(h:isGl env.scope x=true):env.kindOf x=some .globalImplicit/\(x==("__debug__":Str))=false:=by
 unfold isGl at h;simp only[yN,Bool.not_eq_true']at h;exact⟨kind_eq h.1,h.2⟩
theorem s_gl(G:Good B)(x:Str):SndX B (.gl x):=by
 intro A nc env d r C h;have h:=a2 h;obtain⟨k1,k2⟩:=isGl_of h.1;exact plain_pair (fun μ S Q q=>by
  change glGet x S Q at q;unfold glGet at q;split at q
  .rename_i v hv;refine xea (G.glV x v hv) fun u hu hr=>?_;exact ev_global C k1 k2 hu (fun h I n hk=>hr h I n hk) q
  .exact q.elim) rfl
theorem s_at(ih:SndX B o)(a:At):SndX B (.at o a):=by
 intro A nc env d r C h;have h:=a2 h;exact plain_pair (fun μ S Q q=>ev_at (beq_self_eq_true _) h.1 ((ih _ _ _ _ _ C h.2).1 _ _ _ q)) rfl
theorem s_neg(ih:SndX B o):SndX B (.neg o):=fun A nc env d r C h=>plain_pair (fun μ S Q q=>ev_neg ((ih _ _ _ _ _ C h).1 _ _ _ q)) rfl
theorem s_not(ih:SndX B o):SndX B (.not o):=by
 intro A nc env d r C h;refine⟨fun μ S Q q=>ev_not ((ih _ _ _ _ _ C h).1 _ _ _ q),fun μ S K q s I hS hL=>?_⟩;refine isTrue_not (zB ((ih _ _ _ _ _ C h).2 _ _ (fun b S=>K (!b) S) q s I hS hL) ?_ fun _ _ z=>z);intro b s' q_r;refine xe2a3 q_r fun S' I' q a c f=>?_;exact⟨S',I',q,a,c,f⟩
theorem s_bin(op:BOp)(ihl:SndX B l)(ihr:SndX B r):SndX B (.bin op l r):=by
 intro A nc env d e C h;have h:=a2 h;refine plain_pair (fun μ S Q q s I hS hL=>?_) rfl;refine wpAny_BinOp (zB ((ihl _ _ _ _ _ C h.1).1 _ _ _ q s I hS hL) ?_ fun _ _ z=>z);rintro v s₁⟨x,S₁,I₁,q₁,hS₁,hE₁,hL₁,hv⟩;refine zB ((ihr _ _ _ _ _ C h.2).1 _ _ _ q₁ s₁ I₁ hS₁ hL₁) ?_ fun _ _ z=>z;rintro w s₂⟨y,S₂,I₂,q₂,hS₂,hE₂,hL₂,hw⟩;exact EvS.tail (hE₁.trans hE₂) (EvS.bin hS₂ hL₂ (hv.up hE₂.up) hw q₂)
theorem s_cmp(op:COp)(ihl:SndX B l)(ihr:SndX B r):SndX B (.cmp op l r):=by
 intro A nc env d e C h;have h:=a2 h;refine⟨fun μ S Q q s I hS hL=>?_,fun μ S K q s I hS hL=>?_⟩
 .refine wpAny_Compare1 (zB ((ihl _ _ _ _ _ C h.1).1 _ _ _ q s I hS hL) ?_ fun _ _ z=>z) (tame_behind (chkX_tame h.2));rintro v s₁⟨x,S₁,I₁,q₁,hS₁,hE₁,hL₁,hv⟩;refine zB ((ihr _ _ _ _ _ C h.2).1 _ _ _ q₁ s₁ I₁ hS₁ hL₁) ?_ fun _ _ z=>z;rintro w s₂⟨y,S₂,I₂,q₂,hS₂,hE₂,hL₂,hw⟩;exact EvS.tail (hE₁.trans hE₂) (EvS.cmp C hS₂ hL₂ (hv.up hE₂.up) hw q₂)
 .refine wpAny_isTrue_Compare1 (zB ((ihl _ _ _ _ _ C h.1).1 _ _ _ q s I hS hL) ?_ fun _ _ z=>z) (tame_behind (chkX_tame h.2));rintro v s₁⟨x,S₁,I₁,q₁,hS₁,hE₁,hL₁,hv⟩;refine zB ((ihr _ _ _ _ _ C h.2).1 _ _ _ q₁ s₁ I₁ hS₁ hL₁) ?_ fun _ _ z=>z;rintro w s₂⟨y,S₂,I₂,q₂,hS₂,hE₂,hL₂,hw⟩;refine zB (EvS.cmp C hS₂ hL₂ (hv.up hE₂.up) hw q₂) ?_ fun _ _ z=>z;rintro u s₃⟨z,S₃,I₃,q₃,hS₃,hE₃,hL₃,hu⟩;refine xea (onB_elim hu q₃) fun b e_1 q₃=>?_;clear hu;subst e_1;exact wpAny_truthy_bool ⟨S₃,I₃,q₃,hS₃,(hE₁.trans hE₂).trans hE₃,hL₃⟩
abbrev PairX(B:Base)(A:Around)(nc:NC)(env:Env)(d:Nat)(x:X)(e:Expr):Prop:=(∀μ S Q,wpX (WEd B d) x μ S Q->EvJ B A nc env (eval e env) μ S Q)/\(∀μ S K,wpX (WEd B d) x μ S (onQ K)->TrJ B A nc env e μ S K)
theorem and_core{l':Expr}(hl:PairX B A nc env d l l')(hr:PairX B A nc env d r (.BoolOp .And (r'::rr) pos)):PairX B A nc env d (.and l r) (.BoolOp .And (l'::r'::rr) pos):=by
 refine⟨fun μ S Q q s I hS hL=>?_,fun μ S K q s I hS hL=>?_⟩
 .refine BoolOp_and (zB (hl.1 _ _ _ q s I hS hL) ?_ fun _ _ z=>z);intro v s₁ q_r;obtain⟨x,S₁,I₁,q₁,hS₁,hE₁,hL₁,hv⟩:=q_r;refine xea (onB_elim hv q₁) fun b e_1 q₁=>?_;clear hv;subst e_1;refine wpAny_truthy_bool ?_;cases b with|false=>exact⟨.bool false,S₁,I₁,q₁,hS₁,hE₁,hL₁,.bool _⟩|true=>
  refine EvS.tail hE₁ (zB (hr.1 _ _ _ q₁ s₁ I₁ hS₁ hL₁) ?_ fun _ _ z=>z);intro w s₂ q_r;obtain⟨y,S₂,I₂,q₂,hS₂,hE₂,hL₂,hw⟩:=q_r;refine xea (onB_elim hw q₂) fun b e_1 q₂=>?_;clear hw;subst e_1;exact⟨.bool b,S₂,I₂,q₂,hS₂,hE₂,hL₂,.bool b⟩
 .refine isTrue_and (zB (hl.2 _ _ (fun b S=>if b=true then wpX (WEd B d) r μ S (onQ K)else K false S) q s I hS hL) ?_ fun _ _ z=>z);intro b s₁ q_r;refine xe2a3 q_r fun S₁ I₁ q₁ hS₁ hE₁ hL₁=>?_;cases b with|false=>exact⟨S₁,I₁,q₁,hS₁,hE₁,hL₁⟩|true=>exact TrJ.tail hE₁ (hr.2 _ _ _ q₁ s₁ I₁ hS₁ hL₁)
theorem and_one(hr:PairX B A nc env d r r'):PairX B A nc env d r (.BoolOp .And [r'] pos):=by
 refine⟨fun μ S Q q=>BoolOp_one' (hr.1 _ _ _ q),fun μ S K q s I hS hL=>?_⟩;refine isTrue_and (zB (hr.2 _ _ _ q s I hS hL) ?_ fun _ _ z=>z);intro b s₁ q_r;refine xe2a3 q_r fun S₁ I₁ q₁ hS₁ hE₁ hL₁=>?_;cases b with|false=>exact⟨S₁,I₁,q₁,hS₁,hE₁,hL₁⟩|true=>exact isTrue_and_nil ⟨S₁,I₁,q₁,hS₁,hE₁,hL₁⟩
theorem s_and(ihl:SndX B l)(ihr:SndX B r):SndX B (.and l r):=by
 intro A nc env d e C h;have h:=a2 h;exact and_core (ihl _ _ _ _ _ C h.1) (and_one (ihr _ _ _ _ _ C h.2))
theorem or_core{l':Expr}(hl:PairX B A nc env d l l')(hr:PairX B A nc env d r (.BoolOp .Or (r'::rr) pos)):PairX B A nc env d (.or l r) (.BoolOp .Or (l'::r'::rr) pos):=by
 refine⟨fun μ S Q q s I hS hL=>?_,fun μ S K q s I hS hL=>?_⟩
 .refine BoolOp_or (zB (hl.1 _ _ _ q s I hS hL) ?_ fun _ _ z=>z);intro v s₁ q_r;obtain⟨x,S₁,I₁,q₁,hS₁,hE₁,hL₁,hv⟩:=q_r;refine xea (onB_elim hv q₁) fun b e_1 q₁=>?_;clear hv;subst e_1;refine wpAny_truthy_bool ?_;cases b with|true=>exact⟨.bool true,S₁,I₁,q₁,hS₁,hE₁,hL₁,.bool _⟩|false=>
  refine EvS.tail hE₁ (zB (hr.1 _ _ _ q₁ s₁ I₁ hS₁ hL₁) ?_ fun _ _ z=>z);intro w s₂ q_r;obtain⟨y,S₂,I₂,q₂,hS₂,hE₂,hL₂,hw⟩:=q_r;refine xea (onB_elim hw q₂) fun b e_1 q₂=>?_;clear hw;subst e_1;exact⟨.bool b,S₂,I₂,q₂,hS₂,hE₂,hL₂,.bool b⟩
 .refine isTrue_or (zB (hl.2 _ _ (fun b S=>if b=true then K true S else wpX (WEd B d) r μ S (onQ K)) q s I hS hL) ?_ fun _ _ z=>z);intro b s₁ q_r;refine xe2a3 q_r fun S₁ I₁ q₁ hS₁ hE₁ hL₁=>?_;cases b with|true=>exact⟨S₁,I₁,q₁,hS₁,hE₁,hL₁⟩|false=>exact TrJ.tail hE₁ (hr.2 _ _ _ q₁ s₁ I₁ hS₁ hL₁)
theorem or_one(hr:PairX B A nc env d r r'):PairX B A nc env d r (.BoolOp .Or [r'] pos):=by
 refine⟨fun μ S Q q=>BoolOp_one' (hr.1 _ _ _ q),fun μ S K q s I hS hL=>?_⟩;refine isTrue_or (zB (hr.2 _ _ _ q s I hS hL) ?_ fun _ _ z=>z);intro b s₁ q_r;refine xe2a3 q_r fun S₁ I₁ q₁ hS₁ hE₁ hL₁=>?_;cases b with|true=>exact⟨S₁,I₁,q₁,hS₁,hE₁,hL₁⟩|false=>exact isTrue_or_nil ⟨S₁,I₁,q₁,hS₁,hE₁,hL₁⟩
theorem s_or(ihl:SndX B l)(ihr:SndX B r):SndX B (.or l r):=fun A nc env d e C h=>or_core (ihl _ _ _ _ _ C (a2 h).1) (or_one (ihr _ _ _ _ _ C (a2 h).2))
theorem s_or3{m:X}(ihl:SndX B l)(ihm:SndX B m)(ihr:SndX B r):SndX B (.or3 l m r):=fun A nc env d e C h=>have p:=or_core (ihl _ _ _ _ _ C (a3 h).1) (or_core (ihm _ _ _ _ _ C (a3 h).2.1) (or_one (pos:=e.ps) (ihr _ _ _ _ _ C (a3 h).2.2)));⟨fun μ S Q q=>p.1 μ S Q q,fun μ S K q=>p.2 μ S K q⟩
theorem s_ite{c t f:X}(ihc:SndX B c)(iht:SndX B t)(ihf:SndX B f):SndX B (.ite c t f):=by
 intro A nc env d e C h;refine xa2 (a3 h) fun h1 h2 h3=>?_;refine⟨fun μ S Q q s I hS hL=>?_,fun μ S K q s I hS hL=>?_⟩
 .have q':wpX (WEd B d) c μ S (onQ fun b S=>if b=true then wpX (WEd B d) t μ S Q else wpX (WEd B d) f μ S Q):=q;refine IfExp_ (zB ((ihc _ _ _ _ _ C h1).2 _ _ _ q' s I hS hL) ?_ fun _ _ z=>z);intro b s₁ q_r;refine xe2a3 q_r fun S₁ I₁ q₁ hS₁ hE₁ hL₁=>?_;cases b with|true=>exact EvS.tail hE₁ ((iht _ _ _ _ _ C h2).1 _ _ _ q₁ s₁ I₁ hS₁ hL₁)|false=>exact EvS.tail hE₁ ((ihf _ _ _ _ _ C h3).1 _ _ _ q₁ s₁ I₁ hS₁ hL₁)
 .have q':wpX (WEd B d) c μ S (onQ fun b S=>if b=true then wpX (WEd B d) t μ S (onQ K)else wpX (WEd B d) f μ S (onQ K)):=q;refine isTrue_IfExp (zB ((ihc _ _ _ _ _ C h1).2 _ _ _ q' s I hS hL) ?_ fun _ _ z=>z);intro b s₁ q_r;refine xe2a3 q_r fun S₁ I₁ q₁ hS₁ hE₁ hL₁=>?_;cases b with|true=>exact TrJ.tail hE₁ ((iht _ _ _ _ _ C h2).2 _ _ _ q₁ s₁ I₁ hS₁ hL₁)|false=>exact TrJ.tail hE₁ ((ihf _ _ _ _ _ C h3).2 _ _ _ q₁ s₁ I₁ hS₁ hL₁)
theorem lastMarks2{o p:CmpOp}{m':Expr}(h:tame r'=true):lastMarks [o,p] [m',r']=false:=tame_behind h
set_option tactic.hygienic true in theorem s_cmp2{m:X}(o p:COp)(ihl:SndX B l)(ihm:SndX B m)(ihr:SndX B r):SndX B (.cmp2 l o m p r):=by
  intro A nc env d e C h;refine xa2 (a3 h) fun h3 h4 h5=>?_;refine⟨fun μ S Q q s I hS hL=>?_,fun μ S K q s I hS hL=>?_⟩
  . refine Compare_chain (zB ((ihl _ _ _ _ _ C h3).1 _ _ _ q s I hS hL) ?_ fun _ _ z=>z) (lastMarks2 (chkX_tame h5));rintro v s₁⟨x,S₁,I₁,q₁,hS₁,hE₁,hL₁,hv⟩;refine chain_link (zB ((ihm _ _ _ _ _ C h4).1 _ _ _ q₁ s₁ I₁ hS₁ hL₁) ?_ fun _ _ z=>z);clear q₁;rintro w s₂⟨y,S₂,I₂,⟨rfl,rfl,hc,qt,qf⟩,hS₂,hE₂,hL₂,hw⟩;rename_i a b t;obtain⟨_,rfl⟩:=hv.int_inv;obtain⟨tk,rfl⟩:=hw.int_inv;refine zB (EvS.cmpInt (Q:=fun v S'=>v=.bool t/\S'=S₂) hS₂ hL₂ hc ⟨rfl,rfl⟩) ?_ fun _ _ z=>z;clear hS₂ hL₂ hc hw;rintro u s₃⟨z,S₃,I₃,⟨rfl,rfl⟩,hS₃,hE₃,hL₃,hu⟩;cases hu;refine wpAny_truthy_bool ?_
    cases t with|true=>
   refine chain_last (zB ((ihr _ _ _ _ _ C h5).1 _ _ _ (qt rfl) s₃ I₃ hS₃ hL₃) ?_ fun _ _ z=>z);rintro w' s₄⟨z',S₄,I₄,q₄,hS₄,hE₄,hL₄,hw'⟩;exact EvS.tail (((hE₁.trans hE₂).trans hE₃).trans hE₄) (EvS.ord hS₄ hL₄ (.int b tk) hw' q₄)|false=>exact⟨_,_,I₃,qf rfl,hS₃,(hE₁.trans hE₂).trans hE₃,hL₃,.bool _⟩
  . refine isTrue_chain (zB ((ihl _ _ _ _ _ C h3).1 _ _ _ q s I hS hL) ?_ fun _ _ z=>z) (lastMarks2 (chkX_tame h5));rintro v s₁⟨x,S₁,I₁,q₁,hS₁,hE₁,hL₁,hv⟩;refine test_link (zB ((ihm _ _ _ _ _ C h4).1 _ _ _ q₁ s₁ I₁ hS₁ hL₁) ?_ fun _ _ z=>z);clear q₁;rintro w s₂⟨y,S₂,I₂,⟨rfl,rfl,hc,qt,qf⟩,hS₂,hE₂,hL₂,hw⟩;rename_i a b t;obtain⟨_,rfl⟩:=hv.int_inv;obtain⟨tk,rfl⟩:=hw.int_inv;refine zB (EvS.cmpInt (Q:=fun v S'=>v=.bool t/\S'=S₂) hS₂ hL₂ hc ⟨rfl,rfl⟩) ?_ fun _ _ z=>z;clear hS₂ hL₂ hc hw;rintro u s₃⟨z,S₃,I₃,⟨rfl,rfl⟩,hS₃,hE₃,hL₃,hu⟩;cases hu;refine wpAny_truthy_bool ?_
    cases t with|true=>
   refine test_last (zB ((ihr _ _ _ _ _ C h5).1 _ _ _ (qt rfl) s₃ I₃ hS₃ hL₃) ?_ fun _ _ z=>z);rintro w' s₄⟨z',S₄,I₄,q₄,hS₄,hE₄,hL₄,hw'⟩;refine zB (EvS.ord hS₄ hL₄ (.int b tk) hw' q₄) ?_ fun _ _ z=>z;rintro u' s₅⟨z5,S₅,I₅,q₅,hS₅,hE₅,hL₅,hu'⟩;refine xea (onB_elim hu' q₅) fun b e_1 q₅=>?_;clear hu';subst e_1;exact wpAny_truthy_bool ⟨S₅,I₅,q₅,hS₅,(((hE₁.trans hE₂).trans hE₃).trans hE₄).trans hE₅,hL₅⟩|false=>exact⟨_,I₃,qf rfl,hS₃,(hE₁.trans hE₂).trans hE₃,hL₃⟩
variable{l:List Val}{r:Xs}
theorem s_tup(ih:SndXs B es):SndX B (.tup es):=by
 intro A nc env d e C h;refine plain_pair (fun μ S Q q s I hS hL=>?_) rfl;show wpAny _ A (eval (.Tuple (toEs es e) e.an.k e.ps) env) _ _ s;rw[arm_eval_Tuple];refine zC (wpAny_standAt (zC (zB ((ih _ _ _ _ _ C h).2 _ _ _ _ q s I hS hL) ?_ fun _ _ z=>z)));intro vs s₁ q_r;refine xe3a4 q_r fun xs S₁ I₁ q_3 hS₁ hE₁ hL₁ hv=>?_;obtain⟨hl,q⟩:=q_3;exact EvS.tail hE₁ (EvS.newTuple hS₁ hL₁ hv hl q)
theorem s_lst(ih:SndXs B es):SndX B (.lst es):=by
 intro A nc env d e C h;refine plain_pair (fun μ S Q q s I hS hL=>?_) rfl;show wpAny _ A (eval (.List (toEs es e) e.ps) env) _ _ s;rw[arm_eval_List];refine zC (wpAny_standAt (zC (zB ((ih _ _ _ _ _ C h).2 _ _ _ _ q s I hS hL) ?_ fun _ _ z=>z)));intro vs s₁ q_r;refine xe3a4 q_r fun xs S₁ I₁ q hS₁ hE₁ hL₁ hv=>?_;exact EvS.tail hE₁ (EvS.newList hS₁ hL₁ hv q)
theorem s_dict0:SndX B .dict0:=by
 intro A nc env d e C h;refine plain_pair (fun μ S Q q=>?_) rfl;refine xe2 q fun t k q=>?_;exact ev_dict0 q
theorem s_dictS{x x':X}(k k':Str)(ih:SndX B x)(ih':SndX B x'):SndX B (.dictS k x k' x'):=by
 intro A nc env d e C h;obtain⟨h3,h4⟩:=a2 h;refine plain_pair (fun μ S Q q=>?_) rfl;obtain⟨hne,q⟩:=q;refine ev_dictS hne fun s I hS hL=>?_;refine zB ((ih _ _ _ _ _ C h3).1 _ _ _ q s I hS hL) ?_ fun _ _ z=>z;rintro v s₁⟨y,S₁,I₁,q,r1,r2,r3,r4⟩;exact⟨y,S₁,I₁,(ih' _ _ _ _ _ C h4).1 _ _ _ q,r1,r2,r3,r4⟩
theorem EvJ.mono{t:Sem Value}(h:EvJ B A nc env t μ S Q)(hq:∀v S',Q v S'->Q' v S'):EvJ B A nc env t μ S Q':=fun s I hS hL=>zB (h s I hS hL) (fun v s' q=>by obtain⟨x,S',I',q,r1,r2,r3,r4⟩:=q;exact⟨x,S',I',hq _ _ q,r1,r2,r3,r4⟩) fun _ _ z=>z
theorem s_sub{i:X}(iho:SndX B o)(ihi:SndX B i):SndX B (.sub o i):=by
 intro A nc env d e C h;have h:=a2 h;refine plain_pair (fun μ S Q q=>?_) rfl;exact ev_sub (chkX_tame h.2) (((iho _ _ _ _ _ C h.1).1 _ _ _ q).mono fun v S' q=>(ihi _ _ _ _ _ C h.2).1 _ _ _ q)
set_option tactic.hygienic true in theorem s_sliceTo(G:Good B){i:X}(iho:SndX B o)(ihi:SndX B i):SndX B (.sliceTo o i):=by
  intro A nc env d e C h;have h:=a2 h;refine plain_pair (fun μ S Q q=>?_) rfl;refine ev_sliceTo G (((iho _ _ _ _ _ C h.1).1 _ _ _ q).mono fun v S' q=>((ihi _ _ _ _ _ C h.2).1 _ _ _ q).mono fun k S'' q=>?_);split at q
  . rename_i i;refine xa2 q fun h0 h1 q=>?_;rcases q with⟨rfl,hl,t,q⟩|⟨xs,e,hl,hl',t,q⟩
    . by_cases hs:B.scr.length<=1000
      .refine⟨i,B.scr.map .int,rfl,h0,.inl ⟨rfl,rfl,by simpa using hs⟩,t,?_⟩;rw[<-List.map_take];exact q
      .exact absurd G.scrLen hs
    .exact⟨i,xs,rfl,h0,.inr ⟨e,hl⟩,t,q⟩
  .exact q.elim
set_option tactic.hygienic true in theorem s_sliceFrom(G:Good B){i:X}(iho:SndX B o)(ihi:SndX B i):SndX B (.sliceFrom o i):=by
 intro A nc env d e C h;have h:=a2 h;refine plain_pair (fun μ S Q q=>?_) rfl;refine ev_sliceFrom G (((iho _ _ _ _ _ C h.1).1 _ _ _ q).mono fun v S' q=>((ihi _ _ _ _ _ C h.2).1 _ _ _ q).mono fun k S'' q=>?_);split at q
 .rename_i i;refine xa2ea2 q fun h0 h1 xs e hl q0=>?_;obtain⟨hl',t,q⟩:=q0;exact⟨i,xs,rfl,h0,.inr ⟨e,hl⟩,t,q⟩
 .exact q.elim
theorem s_rev(G:Good B)(iho:SndX B o):SndX B (.rev o):=by
 intro A nc env d e C h;refine plain_pair (fun μ S Q q=>?_) rfl;refine ev_rev G (beq_self_eq_true _) (((iho _ _ _ _ _ C h).1 _ _ _ q).mono fun v S' q=>?_);refine xea q fun xs e q0=>?_;obtain⟨hl,t,q⟩:=q0;exact⟨xs,.inr ⟨e,by simpa using hl⟩,t,q⟩
theorem s_last1(G:Good B)(iho:SndX B o):SndX B (.last1 o):=by
 intro A nc env d e C h;refine plain_pair (fun μ S Q q=>?_) rfl;refine ev_last1 G (beq_self_eq_true _) (((iho _ _ _ _ _ C h).1 _ _ _ q).mono fun v S' q=>?_);refine xea2 q fun xs e hl q=>?_;obtain⟨hl',t,q⟩:=q;exact⟨xs,.inr ⟨e,hl⟩,t,q⟩
variable{Q:List Val->AS->Prop}
theorem boot_len:bootBuiltins "len"=some (.builtin "len"):=by decide+kernel
theorem boot_abs:bootBuiltins "abs"=some (.builtin "abs"):=by decide+kernel
theorem boot_min:bootBuiltins "min"=some (.builtin "min"):=by decide+kernel
theorem boot_sorted:bootBuiltins "sorted"=some (.builtin "sorted"):=by decide+kernel
theorem boot_list:bootBuiltins "list"=some (.type "list"):=by decide+kernel
theorem boot_tuple:bootBuiltins "tuple"=some (.type "tuple"):=by decide+kernel
theorem boot_range:bootBuiltins "range"=some (.type "range"):=by decide+kernel
theorem boot_enum:bootBuiltins "enumerate"=some (.type "enumerate"):=by decide+kernel
theorem name_b{P:Value->Shared->Prop}(G:Good B)(C:FC B A env d)(hk:isGl env.scope x=true)(hx:x∈glNames)(hv:bootBuiltins x=some v)(hS:SR B s S I)(h:P v s):wpAny (model B.prog B.w) A (eval (.Name x p) env) P (fun _ _=>False) s:=by
 obtain⟨k1,k2⟩:=isGl_of hk;refine ev_builtin C k1 k2 (G.noB x hx) (fun q=>?_) hv h hS;clear hk hv k1 k2;subst q;revert hx;decide+kernel
theorem evs1(ht:tame e=true)(h:EvJ B A nc env (eval e env) μ S fun v S=>Q [v] S):EvsJ B A nc env (spliced (backTo pos (starEach [e] env))) μ S Q:=evs_cons ht (h.mono fun v S' q=>evs_nil q)
theorem evs1e{P:Val->AS->Prop}(ht:tame e=true)(h:EvJ B A nc env (eval e env) μ S P):EvsJ B A nc env (spliced (backTo pos (starEach [e] env))) μ S fun vs S=>∃w,vs=[w]/\P w S:=evs1 ht (h.mono fun v S' q=>⟨v,rfl,q⟩)
theorem evs2(ht:tame e=true)(ht':tame e'=true)(h:EvJ B A nc env (eval e env) μ S fun v S=>EvJ B A nc env (eval e' env) μ S fun w S=>Q [v,w] S):EvsJ B A nc env (spliced (backTo pos (starEach [e,e'] env))) μ S Q:=evs_cons ht (h.mono fun v S' q=>evs_cons ht' (q.mono fun w S'' q=>evs_nil q))
variable{Q:VQ}
theorem vrs1{x:Val}(r:VRs h I n vs [x]):∃v,vs=[v]/\VR h I n v x:=by
 obtain⟨_,_,rfl,a,r⟩:=VRs.cons_inv r;cases r with|nil=>exact⟨_,rfl,a⟩
theorem vrs2{x:Val}(r:VRs h I n vs [x,y]):∃v w,vs=[v,w]/\VR h I n v x/\VR h I n w y:=by
 obtain⟨_,_,rfl,a,r⟩:=VRs.cons_inv r;obtain⟨_,_,rfl,b,r⟩:=VRs.cons_inv r;cases r with|nil=>exact⟨_,_,rfl,a,b⟩
theorem ev_b1{id:String}{o:Expr}{P:Val->AS->Prop}(G:Good B)(C:FC B A env d)(hk:isGl env.scope x=true)(hx:x∈glNames)(hv:bootBuiltins x=some (.builtin id))(ht:tame o=true)(h:EvJ B A nc env (eval o env) μ S P)(hc:∀v y s S I,SR B s S I->LR B nc env s.heap I S μ->VR s.heap I S.n v y->P y S->EvS B A nc env (call (.builtin id) [v]) μ s S I Q):EvJ B A nc env (eval (.Call (.Name x p) [o] [] pos) env) μ S Q:=by
 intro s I hS hL;refine eval_Call_Name (name_b G C hk hx hv hS (callB_xs (fun e he=>by rw[zD]at he;exact he▸ht) (zB (evs1 (Q:=fun vs S=>∃v,vs=[v]/\P v S) ht (h.mono fun v S' q=>⟨v,rfl,q⟩) s I hS hL) ?_ fun _ _ z=>z)));intro vs s₁ q_r;refine xe3a4 q_r fun xs S₁ I₁ q_3 hS₁ hE₁ hL₁ hvs=>?_;obtain⟨y,rfl,q⟩:=q_3;refine xea (vrs1 hvs) fun v e_1 hv=>?_;clear hvs;subst e_1;exact EvS.tail hE₁ (hc v y s₁ S₁ I₁ hS₁ hL₁ hv q)
theorem ev_t1{id:String}{o:Expr}{P:Val->AS->Prop}(G:Good B)(C:FC B A env d)(hk:isGl env.scope x=true)(hx:x∈glNames)(hv:bootBuiltins x=some (.type id))(ht:tame o=true)(h:EvJ B A nc env (eval o env) μ S P)(hc:∀v y s S I,SR B s S I->LR B nc env s.heap I S μ->VR s.heap I S.n v y->P y S->EvS B A nc env (call (.type id) [v]) μ s S I Q):EvJ B A nc env (eval (.Call (.Name x p) [o] [] pos) env) μ S Q:=by
 intro s I hS hL;refine eval_Call_Name (name_b G C hk hx hv hS (callT_xs (fun e he=>by rw[zD]at he;exact he▸ht) (zB (evs1 (Q:=fun vs S=>∃v,vs=[v]/\P v S) ht (h.mono fun v S' q=>⟨v,rfl,q⟩) s I hS hL) ?_ fun _ _ z=>z)));intro vs s₁ q_r;refine xe3a4 q_r fun xs S₁ I₁ q_3 hS₁ hE₁ hL₁ hvs=>?_;obtain⟨y,rfl,q⟩:=q_3;refine xea (vrs1 hvs) fun v e_1 hv=>?_;clear hvs;subst e_1;exact EvS.tail hE₁ (hc v y s₁ S₁ I₁ hS₁ hL₁ hv q)
variable{x:X}
theorem meth_at{a:At}(h:a.nm=f.nm)(hm:methOf c f=true):f.at=some a:=f.at_of.symm.trans (h▸At.ofNm_nm a)
variable{c:X}
theorem s_call(G:Good B)(f:Fn)(ih:SndXs B es):SndX B (.call f es):=by
 intro A nc env d e C h;refine xa2 (a3 h) fun h1 h3 h4=>?_;obtain⟨k1,k2⟩:=isGl_of h3;obtain⟨t1,t2⟩:=ih _ _ _ _ _ C h4;refine plain_pair (fun μ S Q q=>?_) rfl;exact ev_fn G C h1 rfl k1 k2 t1 (t2 _ _ _ _ q)
theorem s_meth(G:Good B)(f:Fn)(iho:SndX B o)(ih:SndXs B es):SndX B (.meth o f es):=by
 intro A nc env d e C h;refine xa3 (a4 h) fun hm h4 h5 h6=>?_;obtain⟨h2,h3⟩:=a2 hm;obtain⟨t1,t2⟩:=ih _ _ _ _ _ C h6;refine plain_pair (fun μ S Q q=>?_) rfl;exact ev_meth G C rfl h2 t1 (zW h4) h3 (fun c a hm hn=>meth_at hn hm) (((iho _ _ _ _ _ C h5).1 _ _ _ q).mono fun v S' q=>⟨q.1,t2 _ _ _ _ q.2⟩)
theorem s_new(G:Good B)(c:Cls)(ih:SndXs B es):SndX B (.new c es):=by
 intro A nc env d e C h;obtain⟨h3,h4⟩:=a2 h;obtain⟨k1,k2⟩:=isGl_of h3;obtain⟨t1,t2⟩:=ih _ _ _ _ _ C h4;refine plain_pair (fun μ S Q q=>?_) rfl;exact ev_new G C rfl k1 k2 t1 (t2 _ _ _ _ q)
theorem s_len(G:Good B)(ih:SndX B o):SndX B (.len o):=by
 intro A nc env d e C h;obtain⟨h2,h3⟩:=a2 h;refine plain_pair (fun μ S Q q=>?_) rfl;exact ev_b1 G C h2 (by simp[glNames]) boot_len (chkX_tame h3) ((ih _ _ _ _ _ C h3).1 _ _ _ q) fun v y s S I hS hL hv q=>call_len hS hL hv q
theorem s_abs(G:Good B)(ih:SndX B o):SndX B (.abs o):=by
 intro A nc env d e C h;obtain⟨h2,h3⟩:=a2 h;refine plain_pair (fun μ S Q q=>?_) rfl;refine ev_b1 G C h2 (by simp[glNames]) boot_abs (chkX_tame h3) ((ih _ _ _ _ _ C h3).1 _ _ _ q) fun v y s S I hS hL hv q=>?_;split at q;.cases hv;exact call_abs hS hL q
 .exact q.elim
theorem s_toList(G:Good B)(ih:SndX B o):SndX B (.toList o):=by
  intro A nc env d e C h;obtain⟨h2,h3⟩:=a2 h;refine plain_pair (fun μ S Q q=>?_) rfl;refine ev_t1 G C h2 (by simp[glNames]) boot_list (chkX_tame h3) ((ih _ _ _ _ _ C h3).1 _ _ _ q) fun v y s S I hS hL hv q=>?_;split at q;.exact call_toList hS hL hv rfl q
  . rename_i t n;split at q
    .rename_i m xs e;obtain⟨rfl,q⟩:=q;exact call_toList hS hL hv (by simp[AS.seqOf,AS.listAt,e]) q
    .rename_i m kvs e;obtain⟨rfl,q⟩:=q;exact call_listT C.handled hS hL hv e q
    .exact q.elim
  .exact q.elim
theorem s_toTuple(G:Good B)(ih:SndX B o):SndX B (.toTuple o):=by
 intro A nc env d e C h;obtain⟨h2,h3⟩:=a2 h;refine plain_pair (fun μ S Q q=>?_) rfl;refine ev_t1 G C h2 (by simp[glNames]) boot_tuple (chkX_tame h3) ((ih _ _ _ _ _ C h3).1 _ _ _ q) fun v y s S I hS hL hv q=>?_;refine xea2 q fun xs e hl q=>?_;exact call_toTuple hS hL hv e hl q
theorem s_min(G:Good B){a b:X}(iha:SndX B a)(ihb:SndX B b):SndX B (.min a b):=by
  intro A nc env d e C h;refine xa2 (a3 h) fun h2 h3 h4=>?_;refine plain_pair (fun μ S Q q s I hS hL=>?_) rfl;refine eval_Call_Name (name_b G C h2 (by simp[glNames]) boot_min hS (callB_xs (fun e he=>?_) (zB (evs2 (Q:=fun vs S=>∃v w,vs=[v,w]/\(match v,w with|.int i,.int j=>Q (.int (Min.min i j)) S|_,_=>False)) (chkX_tame h3) (chkX_tame h4) (((iha _ _ _ _ _ C h3).1 _ _ _ q).mono fun v S' q=>((ihb _ _ _ _ _ C h4).1 _ _ _ q).mono fun w S'' q=>⟨v,w,rfl,q⟩) s I hS hL) ?_ fun _ _ z=>z)))
  . simp only[zL,List.not_mem_nil,or_false]at he;rcases he with rfl|rfl;.exact chkX_tame h3
    .exact chkX_tame h4
  . rintro vs s₁⟨xs,S₁,I₁,⟨y,z,rfl,q⟩,hS₁,hE₁,hL₁,hvs⟩;refine xe2a2 (vrs2 hvs) fun v w e_2 hv hw=>?_;clear hvs;subst e_2;split at q
    .cases hv;cases hw;exact EvS.tail hE₁ (call_min C.handled hS₁ hL₁ q)
    .exact q.elim
theorem s_app(iho:SndX B o)(ihx:SndX B x):SndX B (.app o x):=by
 intro A nc env d e C h;refine xa2 (a3 h) fun hm h4 h5=>?_;obtain⟨h2,h3⟩:=a2 hm;have tt:=chkX_tame h5;have ht:∀e∈[_],tame e=true:=fun e he=>by rw[zD]at he;exact he▸tt
 refine plain_pair (fun μ S Q q s I hS hL=>?_) rfl;refine method_xs h2 ht (by simp) h3 (zB ((iho _ _ _ _ _ C h4).1 _ _ _ q s I hS hL) ?_ fun _ _ z=>z);intro v s₁ q_r pl;obtain⟨y,S₁,I₁,⟨⟨t,n,xs,rfl,e0⟩,q⟩,hS₁,hE₁,hL₁,hv⟩:=q_r;refine find_list hS₁ hv e0 PySem.F.slot_list_append PySem.F.type_list_append (callB_xs ht (zB (evs1e tt ((ihx _ _ _ _ _ C h5).1 _ _ _ q) s₁ I₁ hS₁ hL₁) ?_ fun _ _ z=>z));intro vs s₂ q_r;refine xe3a4 q_r fun ws S₂ I₂ q_3 hS₂ hE₂ hL₂ hvs=>?_;obtain⟨w,rfl,q⟩:=q_3;refine xea (vrs1 hvs) fun u e_1 hu=>?_;clear hvs;subst e_1;obtain⟨eo,e,hl,q⟩:=q;cases eo;exact EvS.tail (hE₁.trans hE₂) (call_append hS₂ hL₂ (hv.up hE₂.up) hu e hl q)
theorem s_pop(iho:SndX B o):SndX B (.pop o):=by
 intro A nc env d e C h;obtain⟨hm,h4⟩:=a2 h;obtain⟨h2,h3⟩:=a2 hm;refine plain_pair (fun μ S Q q s I hS hL=>?_) rfl;refine method_xs h2 (by simp) (by simp) h3 (zB ((iho _ _ _ _ _ C h4).1 _ _ _ q s I hS hL) ?_ fun _ _ z=>z);intro v s₁ q_r pl;obtain⟨y,S₁,I₁,q,hS₁,hE₁,hL₁,hv⟩:=q_r;obtain⟨rfl,e,hl,hy,q⟩:=q;refine find_list hS₁ hv e PySem.F.slot_list_pop PySem.F.type_list_pop (callB_xs (by simp) (wpAny_items_nil ?_));exact EvS.tail hE₁ (call_pop hS₁ hL₁ hv e hl hy q)
theorem s_ext(iho:SndX B o)(ihx:SndX B x):SndX B (.ext o x):=by
 intro A nc env d e C h;refine xa2 (a3 h) fun hm h4 h5=>?_;obtain⟨h2,h3⟩:=a2 hm;have tt:=chkX_tame h5;have ht:∀e∈[_],tame e=true:=fun e he=>by rw[zD]at he;exact he▸tt
 refine plain_pair (fun μ S Q q s I hS hL=>?_) rfl;refine method_xs h2 ht (by simp) h3 (zB ((iho _ _ _ _ _ C h4).1 _ _ _ q s I hS hL) ?_ fun _ _ z=>z);intro v s₁ q_r pl;obtain⟨y,S₁,I₁,⟨⟨t,n,xs,rfl,e0⟩,q⟩,hS₁,hE₁,hL₁,hv⟩:=q_r;refine find_list hS₁ hv e0 PySem.F.slot_list_extend PySem.F.type_list_extend (callB_xs ht (zB (evs1e tt ((ihx _ _ _ _ _ C h5).1 _ _ _ q) s₁ I₁ hS₁ hL₁) ?_ fun _ _ z=>z));intro vs s₂ q_r;refine xe3a4 q_r fun ws S₂ I₂ q_3 hS₂ hE₂ hL₂ hvs=>?_;obtain⟨w,rfl,q⟩:=q_3;refine xea (vrs1 hvs) fun u e_1 hu=>?_;clear hvs;subst e_1;obtain⟨eo,e,rfl,hne,hz,hl,q⟩:=q;clear hne;cases eo;exact EvS.tail (hE₁.trans hE₂) (call_extend hS₂ hL₂ (hv.up hE₂.up) hu e hz hl q)
theorem evs2e{P:Val->Val->AS->Prop}(ht:tame e=true)(ht':tame e'=true)(h:EvJ B A nc env (eval e env) μ S fun v S=>EvJ B A nc env (eval e' env) μ S fun w S=>P v w S):EvsJ B A nc env (spliced (backTo pos (starEach [e,e'] env))) μ S fun vs S=>∃v w,vs=[v,w]/\P v w S:=evs2 ht ht' (h.mono fun v S' q=>q.mono fun w S'' q=>⟨v,w,rfl,q⟩)
theorem s_setdef{k:X}(iho:SndX B o)(ihk:SndX B k)(ihx:SndX B x):SndX B (.setdef o k x):=by
 intro A nc env d e C h;refine xa3 (a4 h) fun hm h4 h5 h6=>?_;obtain⟨h2,h3⟩:=a2 hm;have tk:=chkX_tame h5;have tx:=chkX_tame h6;have ht:∀y∈[toE k (e.dn 1),toE x (e.dn 2)],tame y=true:=fun e he=>by
  simp only[zL,List.not_mem_nil,or_false]at he;rcases he with rfl|rfl;.exact tk
  .exact tx
 refine plain_pair (fun μ S Q q s I hS hL=>?_) rfl;refine method_xs h2 ht (by simp) h3 (zB ((iho _ _ _ _ _ C h4).1 _ _ _ q s I hS hL) ?_ fun _ _ z=>z);intro v s₁ q_r pl;obtain⟨y,S₁,I₁,⟨⟨t,n,xs,rfl,e0⟩,q⟩,hS₁,hE₁,hL₁,hv⟩:=q_r;refine find_dict hS₁ hv e0 PySem.F.slot_dict_setdefault PySem.F.type_dict_setdefault (callB_xs ht (zB (evs2e tk tx (((ihk _ _ _ _ _ C h5).1 _ _ _ q).mono fun w S' q=>(ihx _ _ _ _ _ C h6).1 _ _ _ q) s₁ I₁ hS₁ hL₁) ?_ fun _ _ z=>z));intro vs s₂ q_r;refine xe3a4 q_r fun ws S₂ I₂ q_3 hS₂ hE₂ hL₂ hvs=>?_;obtain⟨w,u,rfl,q⟩:=q_3;refine xe2a2 (vrs2 hvs) fun w' u' e_2 hw hu=>?_;clear hvs;subst e_2;obtain⟨eo,rfl,e,hl,q⟩:=q;cases eo;exact EvS.tail (hE₁.trans hE₂) (call_setdefault hS₂ hL₂ (hv.up hE₂.up) hw hu e hl q)
theorem s_sortBy(G:Good B){self:X}(iho:SndX B o)(ihs:SndX B self):SndX B (.sortBy o self):=by
 intro A nc env d e C h;refine xa3 (a4 h) fun hm h7 h9 h10=>?_;obtain⟨h2,h3⟩:=a2 hm;refine plain_pair (fun μ S Q q=>?_) rfl;exact ev_sortBy G C rfl rfl rfl rfl h2 h7 h3 (((iho _ _ _ _ _ C h9).1 _ _ _ q).mono fun v S' q=>⟨q.1,(ihs _ _ _ _ _ C h10).1 _ _ _ q.2⟩)
variable{o:Expr}
theorem insK_congr{k k':Val->Int}{x:Val}:(∀y∈x::l,k y=k' y)->insK k x l=insK k' x l:=by
 induction l with|nil=>exact fun _=>rfl|cons y r ih=>
  intro h;rw[insK_cons,insK_cons,h x (zF ..),h y (zI _ (zF ..)),ih fun z hz=>h z ((zL.mp hz).elim (fun e=>e▸zF ..) fun hz=>zI _ (zI _ hz))]
theorem sortK_congr{k k':Val->Int}:(∀y∈l,k y=k' y)->sortK k l=sortK k' l:=by
 induction l with|nil=>exact fun _=>rfl|cons x r ih=>
  intro h;show insK k x (sortK k r)=insK k' x (sortK k' r);rw[ih fun y hy=>h y (zI _ hy)];exact insK_congr fun y hy=>(zL.mp hy).elim (fun e=>h y (e▸zF ..)) fun hy=>h y (zI _ ((sortK_perm k' r).mem_iff.mp hy))
theorem ints_of(h:∀x∈xs,∃i:Int,x=.int i/\key x=(i.natAbs:Int)):∃ns:List Int,xs=ns.map .int/\(∀x∈xs,key x=absKey x):=by
 induction xs with|nil=>exact⟨[],rfl,fun x hx=>by cases hx⟩|cons x r ih=>
  refine xea (ih fun x hx=>h x (zI _ hx)) fun ns e h2=>?_;refine xea (h x (zF ..)) fun i e_1 hk=>?_;clear h;subst e_1;refine⟨i::ns,by rw[List.map_cons,<-e],fun y hy=>?_⟩;rcases zL.mp hy with rfl|hy;.exact hk
  .exact h2 y hy
theorem eval_Call_Name_kw{x:Str}{es:List Expr}{P:Value->Shared->Prop}(h:wpAny (model B.prog B.w) A (eval (.Name x p) env) (fun f s₁=>wpAny (model B.prog B.w) A (callWith pos f [] (backTo pos (starEach es env)) (backToKw pos (keywordEach kws env))) P (fun _ _=>False) s₁) (fun _ _=>False) s):wpAny (model B.prog B.w) A (eval (.Call (.Name x p) es kws pos) env) P (fun _ _=>False) s:=by
 show wpAny _ A (do callWith pos (<-eval (.Name x p) env) [] (backTo pos (starEach es env)) (backToKw pos (keywordEach kws env))) _ _ s;exact zC h
theorem each1(h:tame o=true):backTo pos (starEach [o] env)=(false,eval o env)::backTo pos (starEach [] env):=by
 rw[tame_star h];rfl
theorem each1p(h:tame o=true):(backTo pos (starEach [o] env)).any (·.1)=false:=plain_args fun e he=>by rw[zD]at he;exact he▸h
theorem s_sorted(G:Good B){o:X}{k:KeyF}(iho:SndX B o):SndX B (.sorted o k):=by
 intro A nc env d e C h;refine xa3 (a4 h) fun h2 h4 h5 h6=>?_;have tt:=chkX_tame h5;refine plain_pair (fun μ S Q q s I hS hL=>?_) rfl;refine eval_Call_Name_kw (name_b G C h2 (by simp[glNames]) boot_sorted hS (callWith_kw (zB (evs1e tt ((iho _ _ _ _ _ C h5).1 _ _ _ q) s I hS hL) ?_ fun _ _ z=>z) (each1 tt) (each1p tt)));clear h q;intro vs s₁ q_r;refine xe3a4 q_r fun ws S₁ I₁ q_3 hS₁ hE₁ hL₁ hvs=>?_;obtain⟨w,rfl,xs,hx,hl,key,⟨hap,hk⟩,qn⟩:=q_3;refine xea (vrs1 hvs) fun v e_1 hv=>?_;clear hvs;subst e_1;refine kws_cons ?_;obtain⟨k1,k2⟩:=isGl_of h4
 cases k with|abs=>
  refine name_b G C h4 (show("abs":Str)∈glNames by simp[glNames]) boot_abs hS₁ (kws_nil ?_);refine xea (ints_of hk) fun ns e_1 hc=>?_;clear hk;subst e_1;rw[sortK_congr hc]at qn;obtain⟨-,t,qn⟩:=qn;rw[zA]at hl;refine EvS.tail hE₁ (call_sortedAbs C hS₁ hL₁ hv hx hl ?_ qn);unfold keysApart at hap;rw[List.pairwise_map]at hap;refine hap.imp_of_mem fun{a b}ha hb h e=>h ?_;rw[hc _ (List.mem_map_of_mem ha),hc _ (List.mem_map_of_mem hb)];show(_:Int)=_;exact zG Int.ofNat e|fn f=>
  have hf:f.glob=true:=h6;refine Calls.Name_function_global C.kind k1 (Calls.loadGlobal_global (by rw[C.glob];exact B.T.g.keeps hS₁.keep) (G.glF f hf) (kws_nil ?_)) k2;obtain⟨-,t,qn⟩:=qn;exact EvS.tail hE₁ (call_sortedF G C hS₁ hL₁ hv hx hk.1 hap hk.2 qn)
theorem sndXs_nil:SndXs B .nil:=by
 intro A nc env d es C h;exact⟨fun e he=>(nomatch he),fun pos μ S Q q=>evs_nil q⟩
theorem sndXs_cons(ih:SndX B x)(ihr:SndXs B r):SndXs B (.cons x r):=by
  intro A nc env d es C h;obtain⟨h1,h2⟩:=a2 h;obtain⟨t1,t2⟩:=ihr _ _ _ _ _ C h2;have tt:=chkX_tame h1;refine⟨fun e he=>?_,fun pos μ S Q q=>?_⟩
  . rcases zL.mp he with rfl|he;.exact tt
    .exact t1 _ he
  .exact evs_cons tt (((ih _ _ _ _ _ C h1).1 _ _ _ q).mono fun v S' q=>t2 _ _ _ _ q)
theorem evs3e{e'':Expr}{P:Val->Val->Val->AS->Prop}(ht:tame e=true)(ht':tame e'=true)(ht'':tame e''=true)(h:EvJ B A nc env (eval e env) μ S fun v S=>EvJ B A nc env (eval e' env) μ S fun w S=>EvJ B A nc env (eval e'' env) μ S fun u S=>P v w u S):EvsJ B A nc env (spliced (backTo pos (starEach [e,e',e''] env))) μ S fun vs S=>∃v w u,vs=[v,w,u]/\P v w u S:=evs_cons ht (h.mono fun v S' q=>evs2 ht' ht'' (q.mono fun w S'' q=>q.mono fun u S'' q=>⟨v,w,u,rfl,q⟩))
theorem vrs3{x:Val}(r:VRs h I n vs [x,y,z]):∃v w u,vs=[v,w,u]/\VR h I n v x/\VR h I n w y/\VR h I n u z:=by
 obtain⟨_,_,rfl,a,r⟩:=VRs.cons_inv r;obtain⟨_,_,rfl,b,r⟩:=VRs.cons_inv r;obtain⟨_,_,rfl,c,r⟩:=VRs.cons_inv r;cases r with|nil=>exact⟨_,_,_,rfl,a,b,c⟩
variable{vs:List Expr}
theorem SrQ.tail(e1:Ext (We env) s S I s₁ S₁ I₁)(hs:SR B s S I)(h:SrQ B A nc env target μ s₁ S₁ I₁ K v s'):SrQ B A nc env target μ s S I K v s':=by
 obtain⟨items,chk,S',I',wr,J,q,it,j,a,b,c,hn⟩:=h;refine⟨items,chk,S',I',wr,J,q,it,j,a,e1.trans b,c,fun a ha=>e1.old a (hn a ha)⟩
theorem sndSr_of(ih:SndX B x):SndSr B (.of x):=by
 intro A nc env d tg e C h;refine⟨chkX_tame h,fun μ S K q s I hS hL=>?_⟩;refine zB ((ih _ _ _ _ _ C h).1 _ _ _ q s I hS hL) ?_ fun _ _ z=>z;rintro v s₁⟨y,S₁,I₁,⟨items,e,hl,q⟩,hS₁,hE₁,hL₁,hv⟩;exact zB (iter_seq C.handled hS₁ hL₁ hv e q) (fun _ _ z=>z.tail hE₁ hS) fun _ _ z=>z
theorem isTuple_of(h:isTuple tg=true):∃ts k p,tg=.Tuple ts k p:=by
 cases tg with|Tuple ts k p=>exact⟨_,_,_,rfl⟩|_=>exact ff h
theorem sndSr_enum(G:Good B)(ih:SndX B x):SndSr B (.enum x):=by
 intro A nc env d tg e C h;refine xa2 (a3 h) fun h2 h3 h4=>?_;refine xe3 (isTuple_of h4) fun ts k p e_3=>?_;clear h h4;subst e_3;have tt:=chkX_tame h3;refine⟨rfl,fun μ S K q s I hS hL=>?_⟩;refine eval_Call_Name (name_b G C h2 (by simp[glNames]) boot_enum hS (callT_xs (fun e he=>by rw[zD]at he;exact he▸tt) (zB (evs1e tt ((ih _ _ _ _ _ C h3).1 _ _ _ q) s I hS hL) ?_ fun _ _ z=>z)));intro vs s₁ q_r;refine xe3a4 q_r fun ws S₁ I₁ q_3 hS₁ hE₁ hL₁ hvs=>?_;obtain⟨w,rfl,items,e,hl,q⟩:=q_3;refine xea (vrs1 hvs) fun v e_1 hv=>?_;clear hvs;subst e_1;exact zB (iter_enum C.handled hS₁ hL₁ hv e q) (fun _ _ z=>zB z (fun _ _ z=>z.tail hE₁ hS) fun _ _ z=>z) fun _ _ z=>z
theorem range_end{r:Addr}{a b c:Int}{t u v:Tok}{tk:Nat}(hh:A.handled=none)(hS:SR B s S I)(hL:LR B nc env s.heap I S μ)(hr:r=s.heap.objs.size)(ha:a.natAbs<1000)(hb:b.natAbs<1000)(hc:c=1\/c=-1)(q:K (rngVals a b c) (fun _=>True) S):wpAny (model B.prog B.w) A (pyIter (.ref r)) (SrQ B A nc env tg μ s S I K) (fun _ _=>False) {s with heap:=s.heap.push {cls:=.type "range",data:=.fields #[.int a t,.int b u,.int c v]},toks:=tk}:=by
 subst hr;obtain⟨m,cm,hF,hM⟩:=id hL;refine xa3 (grow hS hF hM (push_keep (o:={cls:=.type "range",data:=.fields #[.int a t,.int b u,.int c v]})) tk) fun S1 E1 F1 M1=>?_;exact zB (iter_range hh S1 ⟨m,cm,F1,M1⟩ (IsRange.new ..) ha hb hc q) (fun _ _ z=>z.tail E1 hS) fun _ _ z=>z
theorem ints3{x:Val}{P:Int->Int->Int->Prop}(q:match x,y,z with|.int i,.int j,.int k=>P i j k|_,_,_=>False):∃i j k,x=.int i/\y=.int j/\z=.int k/\P i j k:=by
 cases x with
 |int i=>cases y with
  |int j=>cases z with
   |int k=>exact⟨i,j,k,rfl,rfl,rfl,q⟩|_=>exact q.elim
  |_=>exact q.elim
 |_=>exact q.elim
theorem vr_int{i:Int}(r:VR h I n v (.int i)):∃t,v=.int i t:=r.int_inv
theorem is0_of(h:is0 x=true):x=.int 0:=isI'_of h
theorem is1_of(h:is1 x=true):x=.int 1:=isI'_of h
theorem sndSr_rng(G:Good B){xa xb xc:X}(iha:SndX B xa)(ihb:SndX B xb)(ihc:SndX B xc):SndSr B (.rng xa xb xc n):=by
 intro A nc env d tg e C h;obtain⟨h2,h3⟩:=a2 h;refine⟨rfl,fun μ S K q s I hS hL=>?_⟩;refine eval_Call_Name (name_b G C h2 (by simp[glNames]) boot_range hS ?_);have fin:∀{x y z:Val}{S₁:AS},(match x,y,z with|.int i,.int j,.int k=>i.natAbs<1000/\j.natAbs<1000/\(k=1\/k=-1)/\K (rngVals i j k) (fun _=>True) S₁|_,_,_=>False)->∃i j k,x=.int i/\y=.int j/\z=.int k/\i.natAbs<1000/\j.natAbs<1000/\(k=1\/k=-1)/\K (rngVals i j k) (fun _=>True) S₁:=fun q=>ints3 q;have c3:∀m,(m=0\/3<=m)->∀h3:(chkX env.scope nc xa (e.dn 1)&&chkX env.scope nc xb (e.dn 2)&&chkX env.scope nc xc (e.dn 3))=true,wpAny (model B.prog B.w) A (callWith e.ps (.type "range") [] (backTo e.ps (starEach [toE xa (e.dn 1),toE xb (e.dn 2),toE xc (e.dn 3)] env)) (backToKw e.ps (keywordEach [] env))) (fun x s₁=>wpAny (model B.prog B.w) A (pyIter x) (SrQ B A nc env tg μ s S I K) (fun _ _=>False) s₁) (fun _ _=>False) s:=fun m _ h3=>by
  refine xa2 (a3 h3) fun ha hb hc=>?_;refine callT_xs (fun y he=>by
   have he:y∈[toE xa (e.dn 1),toE xb (e.dn 2),toE xc (e.dn 3)]:=he;simp only[zL,List.not_mem_nil,or_false]at he;rcases he with rfl|rfl|rfl<;>exact toE_tame _ _) (zB (evs3e (toE_tame _ _) (toE_tame _ _) (toE_tame _ _) (((iha _ _ _ _ _ C ha).1 _ _ _ q).mono fun w S' q=>((ihb _ _ _ _ _ C hb).1 _ _ _ q).mono fun w' S' q=>(ihc _ _ _ _ _ C hc).1 _ _ _ q) s I hS hL) ?_ fun _ _ z=>z);intro vs s₁ q_r;refine xe3a4 q_r fun ws S₁ I₁ q_3 hS₁ hE₁ hL₁ hvs=>?_;obtain⟨w,w',w'',rfl,q⟩:=q_3;refine xe3a3 (vrs3 hvs) fun v v' v'' e_3 hv hv' hv''=>?_;subst e_3;clear hvs;obtain⟨i,j,k,rfl,rfl,rfl,ha,hb,hc,q⟩:=fin q;obtain⟨t,rfl⟩:=vr_int hv;obtain⟨t',rfl⟩:=vr_int hv';obtain⟨t'',rfl⟩:=vr_int hv'';exact call_range_3 (by omega) (zB (range_end C.handled hS₁ hL₁ rfl ha hb hc q) (fun _ _ z=>z.tail hE₁ hS) fun _ _ z=>z) (.inl (PyProof.noPylong_small (by omega)))
 cases n with
 |zero=>exact c3 0 (.inl rfl) h3|succ n=>cases n with
  |zero=>
   clear iha ihc c3 h;refine xa2 (a3 h3) fun ha hc hb=>?_;clear h3;obtain rfl:=is0_of ha;obtain rfl:=is1_of hc;refine callT_xs (fun y he=>by rw[zD.mp (show y∈[toE xb (e.dn 1)]from he)];exact toE_tame _ _) (zB (evs1e (toE_tame _ _) ((ihb _ _ _ _ _ C hb).1 _ _ _ q) s I hS hL) ?_ fun _ _ z=>z);intro vs s₁ q_r;refine xe3a4 q_r fun ws S₁ I₁ q_3 hS₁ hE₁ hL₁ hvs=>?_;obtain⟨w,rfl,q⟩:=q_3;refine xea (vrs1 hvs) fun v e_1 hv=>?_;subst e_1;clear hvs;refine xe3a6 (fin q) fun i j k e1 e_4 e3 ha hb hc q=>?_;subst e_4;cases e1;cases e3;obtain⟨t,rfl⟩:=vr_int hv;exact call_range_1 (zB (range_end C.handled hS₁ hL₁ rfl ha hb hc q) (fun _ _ z=>z.tail hE₁ hS) fun _ _ z=>z)|succ n=>cases n with
   |zero=>
    clear ihc c3 h;refine xa2 (a3 h3) fun hc ha hb=>?_;clear h3;obtain rfl:=is1_of hc;refine callT_xs (fun y he=>by
     have he:y∈[toE xa (e.dn 1),toE xb (e.dn 2)]:=he;simp only[zL,List.not_mem_nil,or_false]at he;rcases he with rfl|rfl<;>exact toE_tame _ _) (zB (evs2e (toE_tame _ _) (toE_tame _ _) (((iha _ _ _ _ _ C ha).1 _ _ _ q).mono fun w S' q=>(ihb _ _ _ _ _ C hb).1 _ _ _ q) s I hS hL) ?_ fun _ _ z=>z);intro vs s₁ q_r;refine xe3a4 q_r fun ws S₁ I₁ q_3 hS₁ hE₁ hL₁ hvs=>?_;obtain⟨w,w',rfl,q⟩:=q_3;refine xe2a2 (vrs2 hvs) fun v v' e_2 hv hv'=>?_;subst e_2;clear hvs;refine xe3a6 (fin q) fun i j k e_3 e_4 e3 ha hb hc q=>?_;subst e_3;subst e_4;cases e3;obtain⟨t,rfl⟩:=vr_int hv;obtain⟨t',rfl⟩:=vr_int hv';exact call_range_2 (zB (range_end C.handled hS₁ hL₁ rfl ha hb hc q) (fun _ _ z=>z.tail hE₁ hS) fun _ _ z=>z)|succ n=>exact c3 (n+3) (.inr (Nat.le_add_left 3 n)) h3
def SndT1(B:Base)(x:Xs):Prop:=∀A nc env d r,FC B A env d->chkXs env.scope nc x r=true->(toEs x r).length<=1->∀μ S K,wpT1 (WEd B d) x μ S K->∀s I,SR B s S I->LR B nc env s.heap I S μ->wpAny (model B.prog B.w) A (forIn (toEs x r) true fun c r=>if r=true then do let ok<-isTrue c env (eval c env);pure (ForInStep.yield ok)else pure (ForInStep.yield r)) (fun ok s'=>∃S' I',K ok S'/\SR B s' S' I'/\Ext (We env) s S I s' S' I'/\LR B nc env s'.heap I' S' μ) (fun _ _=>False) s
theorem sndT1_nil:SndT1 B .nil:=fun A nc env d es C h hl μ S K q s I hS hL=>zR ⟨S,I,q,hS,.refl,hL⟩
theorem sndT1_cons(ih:SndX B x):SndT1 B (.cons x r):=by
 intro A nc env d e C h hl μ S K q s I hS hL;have h:=a2 h;have hn:toEs r (e.sh 1)=[]:=List.length_eq_zero_iff.mp (Nat.le_zero.mp (Nat.le_of_succ_le_succ hl));show wpAny _ A (forIn (toE x (e.dn 0)::toEs r (e.sh 1)) true _) _ _ s;rw[hn,List.forIn_cons];simp only[List.forIn_nil,if_true];refine zC (zC (zB ((ih _ _ _ _ _ C h.1).2 _ _ K q s I hS hL) ?_ fun _ _ z=>z));rintro b s₁ z;exact zR (zR z)
variable{r:Rp}
theorem tgNms_of{P:Str->Prop}(hp:∀i x,ok i x=true->nc.lookup x=some i/\P x):∀{es:List Expr},tgNms ok is es=true->NmsOk nc P es is:=by
 induction is with
 |nil=>intro es h;cases es with
  |nil=>exact .nil|cons=>exact ff h
 |cons i is ih=>intro es h;cases es with|nil=>exact ff h|cons e es=>cases e with|Name x p=>exact .cons (hp _ _ (and_l h)).1 (hp _ _ (and_l h)).2 (ih (and_r h))|_=>exact ff h
theorem tgOk_of{P:Str->Prop}(hp:∀i x,ok i x=true->nc.lookup x=some i/\P x)(h:tgOk ok is e=true):TgOk nc P e is:=by
 cases e with
 |Name x p=>cases is with|nil=>exact ff h|cons i is=>cases is with|nil=>exact .one (hp _ _ h).1 (hp _ _ h).2|cons=>exact ff h
 |Tuple es a b=>exact .many (tgNms_of hp (and_r h)) (zW (and_l h))|_=>exact ff h
theorem cmpTg_of(i:Nat)(x:Str)(h:cmpTg nc' scope i x=true):nc'.lookup x=some i/\scope.names.lookup x=some .local:=by
 unfold cmpTg kindIs at h;simp only[yN,yG]at h;exact h
theorem ncIn_of(h:ncIn env.scope nc nc' scope is=true):NcIn nc nc' env scope is/\ScOk scope/\NCinj nc':=by
  unfold ncIn at h;simp only[yN,yL]at h;obtain⟨⟨⟨h1,h2⟩,h3⟩,h4⟩:=h;refine⟨⟨fun n hn=>?_,fun x i hx=>?_⟩,scOk_of h3,ncOk_inj h4⟩
  . have :=h1 _ hn;simp only[kindIs,Bool.or_eq_true,Bool.not_eq_true',yG]at this;rcases this with(z|z)|z;.exact absurd z (by decide)
    .exact .inl z
    .exact .inr z
  . have :=h2 _ (lookup_mem hx);simp only[Bool.or_eq_true,yN,yG,List.contains_iff_mem]at this;rcases this with z|⟨z,w⟩;.exact .inl z
    .exact .inr ⟨z,lookup_mem w⟩
theorem relab_eq:relabel scope env=relab scope env.scope:=rfl
theorem s_comp(ihe:SndX B elt)(ihs:SndSr B src)(iht:SndT1 B test):SndX B (.comp elt is src test nc'):=by
 intro A nc env d e C h;refine xa3 (a4 h) fun h' h6 h7 h8=>?_;refine xa3 (a4 h') fun h2 h3 h4 h5=>?_;have h3:=zW h3;have h7:=zW h7;refine xa2 (ncIn_of h2) fun n1 n2 n3=>?_;obtain⟨tt,hsrc⟩:=ihs _ _ _ _ _ _ C h5;refine plain_pair (fun μ S Q q=>?_) rfl;refine ev_comp1 C (T:=fun μ' S K=>wpT1 (WEd B d) test μ' S K) (L:=fun μ' S Q=>wpX (WEd B d) elt μ' S Q) ⟨n2,n1,n3,tgOk_of cmpTg_of h4,h3,fun cenv fc hc μ' S K q=>iht _ _ _ _ _ fc (by rw[hc,relab_eq];exact h6) h7 _ _ _ q,fun cenv fc hc μ' S Q q=>(ihe _ _ _ _ _ fc (by rw[hc,relab_eq];exact h8)).1 _ _ _ q⟩ q.1 (tame_fold tt env) fun s I hS hL=>hsrc _ _ _ q.2 s I hS hL
theorem s_comp2{src2:X}(ihe:SndX B elt)(ihs:SndSr B src)(ihs2:SndX B src2)(iht:SndT1 B test):SndX B (.comp2 elt i src j src2 test nc'):=by
 intro A nc env d e C h;refine xa3 (a4 h) fun h' h6 h7 h8=>?_;refine xa3 (a4 h') fun h'' h4 h5 h5'=>?_;obtain⟨h2,h3⟩:=a2 h'';have h7:=zW h7;refine xa2 (ncIn_of h2) fun n1 n2 n3=>?_;obtain⟨tt,hsrc⟩:=ihs _ _ _ _ _ _ C h5;refine plain_pair (fun μ S Q q=>?_) rfl;refine ev_comp2 C (T:=fun μ' S K=>wpT1 (WEd B d) test μ' S K) (L:=fun μ' S Q=>wpX (WEd B d) elt μ' S Q) (M:=fun μ' S Q=>wpX (WEd B d) src2 μ' S Q) n2 n1 n3 (tgOk_of cmpTg_of h3) (tgOk_of cmpTg_of h4) q.1.2.2 q.1.1 q.1.2.1 (fun cenv fc hc μ' S K q=>iht _ _ _ _ _ fc (by rw[hc,relab_eq];exact h6) h7 _ _ _ q) (fun cenv fc hc μ' S Q q=>(ihe _ _ _ _ _ fc (by rw[hc,relab_eq];exact h8)).1 _ _ _ q) (fun cenv fc hc μ' S Q q=>(ihs2 _ _ _ _ _ fc (by rw[hc,relab_eq];exact h5')).1 _ _ _ q) (tame_fold tt env) (fun cenv=>tame_fold (chkX_tame h5') cenv) fun s I hS hL=>hsrc _ _ _ q.2 s I hS hL
variable{Q:SQ}
theorem s_super:SndX B (.superInit es):=by
 intro A nc env d e C h;cases h
mutual theorem sndX{B:Base}(G:Good B):∀x:X,SndX B x|.lc i=>s_lc i|.none=>s_none|.tru=>s_tru|.fls=>s_fls|.int i=>s_int i|.str i=>s_str i|.gl x=>s_gl G x|.at o a=>s_at (sndX G o) a|.neg o=>s_neg (sndX G o)|.not o=>s_not (sndX G o)|.bin op l r=>s_bin op (sndX G l) (sndX G r)|.cmp op l r=>s_cmp op (sndX G l) (sndX G r)|.cmp2 l o m p r=>s_cmp2 o p (sndX G l) (sndX G m) (sndX G r)|.and l r=>s_and (sndX G l) (sndX G r)|.or l r=>s_or (sndX G l) (sndX G r)|.or3 l m r=>s_or3 (sndX G l) (sndX G m) (sndX G r)|.ite c t f=>s_ite (sndX G c) (sndX G t) (sndX G f)|.tup es=>s_tup (sndXs G es).1|.lst es=>s_lst (sndXs G es).1|.dict0=>s_dict0|.dictS k x k' x'=>s_dictS k k' (sndX G x) (sndX G x')|.sub o i=>s_sub (sndX G o) (sndX G i)|.sliceTo o i=>s_sliceTo G (sndX G o) (sndX G i)|.sliceFrom o i=>s_sliceFrom G (sndX G o) (sndX G i)|.rev o=>s_rev G (sndX G o)|.last1 o=>s_last1 G (sndX G o)|.call f es=>s_call G f (sndXs G es).1|.meth o f es=>s_meth G f (sndX G o) (sndXs G es).1|.new c es=>s_new G c (sndXs G es).1|.superInit es=>s_super|.len o=>s_len G (sndX G o)|.abs o=>s_abs G (sndX G o)|.min a b=>s_min G (sndX G a) (sndX G b)|.toList o=>s_toList G (sndX G o)|.toTuple o=>s_toTuple G (sndX G o)|.sorted o k=>s_sorted G (sndX G o)|.sortBy o self=>s_sortBy G (sndX G o) (sndX G self)|.app o x=>s_app (sndX G o) (sndX G x)|.pop o=>s_pop (sndX G o)|.ext o x=>s_ext (sndX G o) (sndX G x)|.setdef o k x=>s_setdef (sndX G o) (sndX G k) (sndX G x)|.comp elt is src test nc'=>s_comp (sndX G elt) (sndSr G src) (sndXs G test).2|.comp2 elt i src j src2 test nc'=>s_comp2 (sndX G elt) (sndSr G src) (sndX G src2) (sndXs G test).2 theorem sndXs{B:Base}(G:Good B):∀x:Xs,SndXs B x/\SndT1 B x|.nil=>⟨sndXs_nil,sndT1_nil⟩|.cons x r=>⟨sndXs_cons (sndX G x) (sndXs G r).1,sndT1_cons (sndX G x)⟩theorem sndSr{B:Base}(G:Good B):∀x:Sr,SndSr B x|.of x=>sndSr_of (sndX G x)|.rng a b c n=>sndSr_rng G (sndX G a) (sndX G b) (sndX G c)|.enum x=>sndSr_enum G (sndX G x)end
def SndS(B:Base)(x:St):Prop:=∀A nc env d r,FC B A env d->NCinj nc->chkS env.scope nc x r=true->∀μ S Q,wpSt (WEd B d) x μ S Q->ESt B A nc env (exec (toS x r) env) μ S Q
def SndSs(B:Base)(x:Sts):Prop:=∀A nc env d r,FC B A env d->NCinj nc->chkSs env.scope nc x r=true->∀μ S Q,wpSts (WEd B d) x μ S Q->ESt B A nc env (execs (toSs x r) env) μ S Q
theorem ESt.tail{t:Sem Flow}(e1:Ext (Wf env) s S I s₁ S₁ I₁)(hS:SR B s₁ S₁ I₁)(hL:LR B nc env s₁.heap I₁ S₁ μ)(h:ESt B A nc env t μ S₁ Q):wpAny (model B.prog B.w) A t (StQ B nc env s S I Q) (fun _ _=>False) s₁:=zB (h s₁ I₁ hS hL) (fun _ _ z=>z.trans e1) fun _ _ z=>z
theorem fresh_notWf(hL:LR B nc env s.heap I S μ)(hn:s.heap.get? a=none):¬Wf env a:=by
 obtain⟨m,cm,hF,hM⟩:=hL;intro h;rcases h with h|⟨n,hx,h⟩;.refine xe3a hF.ns fun oL _ _ hL _=>?_;rw[h,hL]at hn;cases hn
 .refine xea (hF.cell n a hx h) fun oc hc _=>?_;rw[hc]at hn;cases hn
theorem isComp_swaps(h:isComp e=false)(t:Option Expr)(l:Nat):swapsWith e t l env=pure false:=by
 cases e<;>first|rfl|cases h
theorem st_ex(G:Good B)(x:X):SndS B (.ex x):=by
 intro A nc env d st C N h μ S Q q s I hS hL;have h:=a2 h;refine wpAny_Expr (zB ((sndX G x _ _ _ _ _ C h.1).1 _ _ _ q s I hS hL) ?_ fun _ _ z=>z) (by unfold interactive;rw[C.kind];rfl) (isComp_swaps (Bool.not_eq_true' _▸h.2) _ _);rintro v s₁⟨y,S₁,I₁,q,hS₁,hE₁,hL₁,hv⟩;have fin:Q .next μ S₁->StQ B nc env s S I Q .next s₁:=fun q=>⟨.next,μ,S₁,I₁,q,hS₁,hE₁.eToF,hL₁,.next⟩;cases hv<;>first|exact q.elim|exact fin q
theorem st_ifs(G:Good B){a:Sts}(iha:SndSs B a)(ihb:SndSs B b):SndS B (.ifs c a b):=by
 intro A nc env d st C N h μ S Q q s I hS hL;have h:=a3 h;refine wpAny_If (zB ((sndX G c _ _ _ _ _ C h.1).2 _ _ _ q s I hS hL) ?_ fun _ _ z=>z);intro t s₁ q_r;refine xe2a3 q_r fun S₁ I₁ q hS₁ hE₁ hL₁=>?_;cases t with|true=>exact ESt.tail hE₁.eToF hS₁ hL₁ (iha _ _ _ _ _ C N h.2.1 _ _ _ q)|false=>exact ESt.tail hE₁.eToF hS₁ hL₁ (ihb _ _ _ _ _ C N h.2.2 _ _ _ q)
theorem st_whl(G:Good B)(ihb:SndSs B b):SndS B (.whl c b):=by
 intro A nc env d st C N h μ S Q q s I hS hL;have h:=a2 h;obtain⟨n,q⟩:=q;refine wpAny_While (codeAny_mono (whileLoop_sound (fun μ S K q=>(sndX G c _ _ _ _ _ C h.1).2 μ S K q) (fun μ S K q=>ihb _ _ _ _ _ C N h.2 μ S K q) q hS hL) ?_);intro r s₁ q_r;refine xea q_r fun f e_1 z=>?_;subst e_1;exact z
theorem st_for(G:Good B)(ihb:SndSs B b):SndS B (.for_ is src b):=by
  intro A nc env d st C N h μ S Q q s I hS hL;have h:=a3 h;obtain⟨tt,hs⟩:=sndSr G src _ _ _ _ _ _ C h.2.1;refine wpAny_For (zB (hs _ _ _ q s I hS hL) (fun x s₁ z=>zB z ?_ fun _ _ z=>z) fun _ _ z=>z) (tame_fold tt env);intro it s₂ q_r;obtain⟨items,chk,S₂,I₂,wr,J,q,hI,hJ,hS₂,hE₂,hL₂,hn⟩:=q_r;refine codeAny_mono (forLoop_sound hI (fun a ha=>fresh_notWf hL (hn a ha)) (fun x μ S K q s I v hS hL hv=>?_) s S I hn hE₂.eToF hS₂ hL₂ hJ q) ?_
  . refine zB (asn_sound C.handled (storesF C N) (tgOk_of (P:=fun x=>env.kindOf x=some .local\/(env.kindOf x=some .cell/\(env.cells.lookup x).isSome=true/\x≠CLS)) ?_ h.1) hS hL hv q) ?_ fun _ _ z=>z
    . intro i x hx;unfold isSt kindIs at hx;simp only[yN,Bool.or_eq_true,yG,Bool.not_eq_true',zQ]at hx;refine⟨hx.1,?_⟩;rcases hx.2 with z|⟨z,w⟩;.exact .inl z
      .exact .inr ⟨z,C.cells x _ z (.inl rfl),w⟩
    .clear q hS hL hv;intro _ s₁ q_r;obtain⟨μ',S',I',⟨q,rfl⟩,hS₁,hE₁,hL₁⟩:=q_r;exact ESt.tail hE₁ hS₁ hL₁ (ihb _ _ _ _ _ C N h.2.2 _ _ _ q)
  .intro r s₁ q_r;refine xea q_r fun f e_1 z=>?_;subst e_1;exact z
theorem st_ret(G:Good B)(x:X):SndS B (.ret x):=by
 intro A nc env d st C N h μ S Q q s I hS hL;refine wpAny_Return_some (zB ((sndX G x _ _ _ _ _ C h).1 _ _ _ q s I hS hL) ?_ fun _ _ z=>z);rintro v s₁⟨y,S₁,I₁,q,hS₁,hE₁,hL₁,hv⟩;exact⟨.ret y,μ,S₁,I₁,q,hS₁,hE₁.eToF,hL₁,.ret hv⟩
theorem st_ret0:SndS B .ret0:=by
 intro A nc env d st C N h μ S Q q s I hS hL;exact wpAny_Return_none ⟨.ret .none,μ,S,I,q,hS,.refl,hL,.ret .none⟩
theorem st_brk:SndS B .brk:=by
 intro A nc env d st C N h μ S Q q s I hS hL;exact wpAny_Break ⟨.brk,μ,S,I,q,hS,.refl,hL,.brk⟩
theorem st_cont:SndS B .cont:=by
 intro A nc env d st C N h μ S Q q s I hS hL;exact wpAny_Continue ⟨.cont,μ,S,I,q,hS,.refl,hL,.cont⟩
theorem st_boom:SndS B .boom:=by
 intro A nc env d st C N h μ S Q q s I hS hL;exact q.elim
theorem sts_nil:SndSs B .nil:=by
 intro A nc env d st C N h μ S Q q s I hS hL;exact wpAny_execs_nil ⟨.next,μ,S,I,q,hS,.refl,hL,.next⟩
theorem sts_cons{x:St}{r:Sts}(ih:SndS B x)(ihr:SndSs B r):SndSs B (.cons x r):=by
 intro A nc env d st C N h μ S Q q s I hS hL;have h:=a2 h;refine wpAny_execs_cons (zB (ih _ _ _ _ _ C N h.1 _ _ _ q s I hS hL) ?_ fun _ _ z=>z);rintro f s₁⟨fl,μ₁,S₁,I₁,q,hS₁,hE₁,hL₁,hf⟩;cases hf with|next=>exact ESt.tail hE₁ hS₁ hL₁ (ihr _ _ _ _ _ C N h.2 _ _ _ q)|brk=>exact⟨.brk,μ₁,S₁,I₁,q,hS₁,hE₁,hL₁,.brk⟩|cont=>exact⟨.cont,μ₁,S₁,I₁,q,hS₁,hE₁,hL₁,.cont⟩|ret v=>exact⟨.ret _,μ₁,S₁,I₁,q,hS₁,hE₁,hL₁,.ret v⟩
theorem isSt_of(C:FC B A env d){x:Str}(hx:isSt env.scope nc i x=true):nc.lookup x=some i/\(env.kindOf x=some .local\/(env.kindOf x=some .cell/\(env.cells.lookup x).isSome=true/\x≠CLS)):=by
 unfold isSt kindIs at hx;simp only[yN,Bool.or_eq_true,yG,Bool.not_eq_true',zQ]at hx;refine⟨hx.1,?_⟩;rcases hx.2 with z|⟨z,w⟩;.exact .inl z
 .exact .inr ⟨z,C.cells x _ z (.inl rfl),w⟩
theorem swaps_other{t:Expr}(h:∀x p,t≠.Name x p)(l:Nat):swapsWith e (some t) l env=pure false:=by
 cases e with
 |ListComp _ _ _ _=>cases t<;>first|rfl|exact absurd rfl (h _ _)
 |SetComp _ _ _ _=>cases t<;>first|rfl|exact absurd rfl (h _ _)
 |DictComp _ _ _ _ _=>cases t<;>first|rfl|exact absurd rfl (h _ _)
 |_=>rfl
theorem UnF.st{K:Mu->AS->Prop}(hW:∀a,W a->Wf env a)(h:UnF B nc env W s S I K s')(hk:∀μ S,K μ S->Q .next μ S):StQ B nc env s S I Q .next s':=by
 obtain⟨μ',S',I',q,a,b,c⟩:=h;exact⟨.next,μ',S',I',hk _ _ q,a,b.weaken fun a h=>.inl (hW a h),c,.next⟩
theorem swaps_cell{y:Str}(h:isComp e=false\/env.kindOf y=some .cell)(l:Nat):swapsWith e (some (.Name y p)) l env=pure false:=by
  rcases h with h|h;.exact isComp_swaps h _ _
  . have e1:(env.kindOf y==some NameKind.local)=false:=by rw[h];rfl
    unfold swapsWith;cases e<;>first|rfl|(dsimp only;rw[e1,Bool.and_false,Bool.false_and,Bool.false_and])
theorem as_name(G:Good B){y:Str}(C:FC B A env d)(N:NCinj nc)(hx:chkX env.scope nc x r=true)(hy:isSt env.scope nc i y=true)(hc:isComp (toE x r)=false\/env.kindOf y=some .cell)(q:wpX (WEd B d) x μ S fun v S=>i<μ.length/\Q .next (μ.set i (some v)) S):ESt B A nc env (exec (.Assign [.Name y p] (toE x r) pos) env) μ S Q:=by
 intro s I hS hL;refine wpAny_Assign_Name (zB ((sndX G x _ _ _ _ _ C hx).1 _ _ _ q s I hS hL) ?_ fun _ _ z=>z) (swaps_cell hc _);rintro w s₁⟨y,S₁,I₁,⟨hi,q⟩,hS₁,hE₁,hL₁,hv⟩;obtain⟨n1,n2⟩:=isSt_of C hy;exact zB (storesF C N _ _ n1 n2 _ _ _ _ _ _ (fun μ S=>Q .next μ S) hS₁ hL₁ hv q) (fun _ _ z=>StQ.trans hE₁.eToF (z.st (fun _ z=>z) fun _ _ z=>z)) fun _ _ z=>z
theorem as_attr(G:Good B){o:X}{a:At}(C:FC B A env d)(hx:chkX env.scope nc x r=true)(ho:chkX env.scope nc o ro=true)(hn:a.nm=nm)(q:wpX (WEd B d) x μ S fun v S=>wpX (WEd B d) o μ S fun o S=>attrSet o a v S fun S=>Q .next μ S):ESt B A nc env (exec (.Assign [.Attribute (toE o ro) nm p] (toE x r) pos) env) μ S Q:=by
 intro s I hS hL;subst hn;refine plainObj_wpAny_Assign_Attribute (zB ((sndX G x _ _ _ _ _ C hx).1 _ _ _ q s I hS hL) ?_ fun _ _ z=>z) (swaps_other (fun _ _=>by simp) _);rintro w s₁⟨y,S₁,I₁,q,hS₁,hE₁,hL₁,hv⟩;refine zB ((sndX G o _ _ _ _ _ C ho).1 _ _ _ q s₁ I₁ hS₁ hL₁) ?_ fun _ _ z=>z;rintro u s₂⟨z,S₂,I₂,q,hS₂,hE₂,hL₂,hu⟩;refine zB (setAttr_step hS₂ hL₂ hu (hv.up hE₂.up) q) ?_ fun _ _ z=>z;rintro _ s₃⟨S₃,I₃,q,a,b,c⟩;exact⟨.next,μ,S₃,I₃,q,a,((hE₁.trans hE₂).trans b).eToF,c,.next⟩
theorem as_sub(G:Good B){o i:X}(C:FC B A env d)(hx:chkX env.scope nc x r=true)(ho:chkX env.scope nc o ro=true)(hi:chkX env.scope nc i ri=true)(q:wpX (WEd B d) x μ S fun v S=>wpX (WEd B d) o μ S fun o S=>wpX (WEd B d) i μ S fun k S=>itemSet o k v S fun S=>Q .next μ S):ESt B A nc env (exec (.Assign [.Subscript (toE o ro) (toE i ri) p] (toE x r) pos) env) μ S Q:=by
 intro s I hS hL;refine wpAny_Assign_Subscript (zB ((sndX G x _ _ _ _ _ C hx).1 _ _ _ q s I hS hL) ?_ fun _ _ z=>z) (swaps_other (fun _ _=>by simp) _);rintro w s₁⟨y,S₁,I₁,q,hS₁,hE₁,hL₁,hv⟩;refine zB ((sndX G o _ _ _ _ _ C ho).1 _ _ _ q s₁ I₁ hS₁ hL₁) ?_ fun _ _ z=>z;rintro u s₂⟨z,S₂,I₂,q,hS₂,hE₂,hL₂,hu⟩;refine zB ((sndX G i _ _ _ _ _ C hi).1 _ _ _ q s₂ I₂ hS₂ hL₂) ?_ fun _ _ z=>z;rintro k s₃⟨kz,S₃,I₃,q,hS₃,hE₃,hL₃,hk⟩;refine zB (setItem_step C hS₃ hL₃ (hu.up hE₃.up) hk ((hv.up hE₂.up).up hE₃.up) q) ?_ fun _ _ z=>z;rintro _ s₄⟨S₄,I₄,q,a,b,c⟩;exact⟨.next,μ,S₄,I₄,q,a,(((hE₁.trans hE₂).trans hE₃).trans b).eToF,c,.next⟩
set_option backward.match.sparseCases true
theorem setAll_set{x:Val}:∀{vs:List Val}{μ:Mu},i∉is->setAll is vs (μ.set i (some x))=(setAll is vs μ).set i (some x):=by
 induction is with|nil=>intro vs μ _;cases vs<;>rfl|cons j is ih=>
  intro vs μ h;cases vs with|nil=>rfl|cons y vs=>
   show setAll is vs ((μ.set i (some x)).set j (some y))=_;rw[List.set_comm _ _ fun e=>h (zL.mpr (.inl e))];exact ih fun z=>h (zI _ z)
theorem setAll_snoc{x:Val}:∀{vs:List Val}{μ:Mu},is.length=vs.length->setAll (is++[i]) (vs++[x]) μ=(setAll is vs μ).set i (some x):=by
 induction is with
 |nil=>intro vs μ h;cases vs with|nil=>rfl|cons=>cases h
 |cons j is ih=>intro vs μ h;cases vs with|nil=>cases h|cons y vs=>exact ih (Nat.succ.inj h)
theorem setAll_rev:∀{vs:List Val}{μ:Mu},is.Nodup->is.length=vs.length->setAll is.reverse vs.reverse μ=setAll is vs μ:=by
 induction is with
 |nil=>intro vs μ _ h;cases vs with|nil=>rfl|cons=>cases h
 |cons j is ih=>intro vs μ hn h;cases vs with|nil=>cases h|cons y vs=>
  have hn:=List.nodup_cons.mp hn;rw[List.reverse_cons,List.reverse_cons,setAll_snoc (by rw[List.length_reverse,List.length_reverse];exact Nat.succ.inj h),ih hn.2 (Nat.succ.inj h)];exact(setAll_set hn.1).symm
theorem names_of{f:Expr->Option Str}{P:Str->Prop}(hf:∀x p,f (.Name x p)=none\/f (.Name x p)=some x)(h:NmsOk nc P ts is):(ts.filterMap f).length=ts.length->(ts.filterMap f).length=is.length/\∀p∈(ts.filterMap f).zip is,nc.lookup p.1=some p.2/\P p.1:=by
 induction h with|nil=>intro _;exact⟨rfl,fun p hp=>by simp at hp⟩|@cons x pos i es is h1 h2 h3 ih=>
    intro hl;have hle:=List.length_filterMap_le f es;rcases hf x pos with z|z;.rw[List.filterMap_cons_none z,List.length_cons]at hl;exact False.elim (lB 0x70610007f7f25041210008080650202 tT hl hle)
    . rw[List.filterMap_cons_some z]at hl⊢;obtain⟨a,b⟩:=ih (by simpa using hl);refine⟨by simpa using a,fun p hp=>?_⟩;rw[List.zip_cons_cons,zL]at hp;rcases hp with rfl|hp;.exact⟨h1,h2⟩
      .exact b p hp
theorem zip_rev{β:Type}:∀{l:List α}{m:List β},l.length=m.length->l.reverse.zip m.reverse=(l.zip m).reverse:=by
 intro l m h;rw[List.zip_eq_zipWith,List.zip_eq_zipWith,List.reverse_zipWith h]
theorem swapB_of{sc:Scope}(h:swapB sc ts vs=true):(ts.length==2||ts.length==3)=true/\vs.length=ts.length/\(ts.filterMap (swF sc ts)).length=ts.length/\(ts.filterMap (swF sc ts)).eraseDups.length=ts.length/\vs.all (foldedForSure 8)=false/\vs.all (constantsAlone 8)=false:=by
 have h':((ts.length==2||ts.length==3)&&vs.length==ts.length&&((ts.filterMap (swF sc ts)).length==ts.length)&&((ts.filterMap (swF sc ts)).eraseDups.length==ts.length)&&!vs.all (foldedForSure 8)&&!vs.all (constantsAlone 8))=true:=h;rw[yN,yN,yN,yN,yN]at h';obtain⟨⟨⟨⟨⟨w1,w2⟩,w3⟩,w4⟩,w5⟩,w6⟩:=h';exact⟨w1,by simpa using w2,by simpa using w3,by simpa using w4,by simpa using w5,by simpa using w6⟩
theorem swapped_of{k':Nat}(hk:env.scope.kind=.function)(h:swapB env.scope ts vs=true)(ht:vs.all tame=true):swappedStores [.Tuple ts k p] (.Tuple vs k' p') env=pure (some (ts.filterMap (swF env.scope ts))):=by
 refine xa5 (swapB_of h) fun w1 w2 w3 w4 w5 w6=>?_;have hb:env.blockKind=.function:=by unfold Env.blockKind;rw[hk];rfl
 have hs:(vs.any fun|.Starred ..=>true|_=>false)=false:=by
  rw[List.any_eq_false];intro x hx;have :=yL.mp ht x hx;clear hx;cases x<;>first|exact Bool.false_ne_true|cases this
 have hn:(ts.filterMap fun|.Name id pos=>if env.kindOf id==some .local&&pos.line==((ts.head?.map (·.pos.line)).getD 0)then some id else none|_=>none)=ts.filterMap (swF env.scope ts):=rfl;have hc:((ts.filterMap (swF env.scope ts)).length !=ts.length||(ts.filterMap (swF env.scope ts)).eraseDups.length !=(ts.filterMap (swF env.scope ts)).length)=false:=by rw[w3,w4];simp
 unfold swappedStores;dsimp only;rw[zN (by rw[w1,w2,hb];simp)];rw[zN (by rw[Bool.not_eq_true];exact hs)];rw[zN (by rw[Bool.not_eq_true];exact hc)];rw[zN (by rw[w5];simp)];rw[zN (by rw[w6];simp)];rfl
theorem unswap_of{v:Expr}(hv:isTuple v=false):swappedStores [.Tuple ts k p] v env=pure none:=by
 cases v<;>first|rfl|cases hv
theorem as_nms(G:Good B)(C:FC B A env d)(N:NCinj nc)(hx:chkX env.scope nc x r=true)(hy:tgNms (isSt env.scope nc) is ts=true)(h2:2<=is.length)(hv:isTuple (toE x r)=false)(q:wpX (WEd B d) x μ S fun v S=>∃vs,v=.tup vs/\vs.length=is.length/\(∀i∈is,i<μ.length)/\Q .next (setAll is vs μ) S):ESt B A nc env (exec (.Assign [.Tuple ts k p] (toE x r) pos) env) μ S Q:=by
 intro s I hS hL;refine Assign_Tuple (zB ((sndX G x _ _ _ _ _ C hx).1 _ _ _ q s I hS hL) ?_ fun _ _ z=>z) (show swapsWith (toE x r) (some (.Tuple ts k p)) pos.line env=pure false from swaps_other (fun _ _=>by simp) _) (unswap_of hv);clear q;rintro w s₁⟨y,S₁,I₁,q,hS₁,hE₁,hL₁,hw⟩;refine zB (asn_sound C.handled (storesF C N) (.many (tgNms_of (fun i x z=>isSt_of C z) hy) h2) hS₁ hL₁ hw (K:=fun μ=>Q .next μ S₁) ?_) (fun _ _ z=>StQ.trans hE₁.eToF (z.st (fun _ z=>z) fun _ _ z=>z.2▸z.1)) fun _ _ z=>z;unfold bindNames;split;.simp at h2
 .exact q
variable{x:Str}
theorem as_swap(G:Good B)(C:FC B A env d)(N:NCinj nc)(hx:chkX env.scope nc (.tup es) r=true)(hy:tgNms (isSt env.scope nc) is ts=true)(h2:2<=is.length)(hn:is.Nodup)(hw:swapB env.scope ts (toEs es r)=true)(ht:(toEs es r).all tame=true)(q:wpX (WEd B d) (.tup es) μ S fun v S=>∃vs,v=.tup vs/\vs.length=is.length/\(∀i∈is,i<μ.length)/\Q .next (setAll is vs μ) S):ESt B A nc env (exec (.Assign [.Tuple ts k p] (.Tuple (toEs es r) r.an.k r.ps) pos) env) μ S Q:=by
 intro s I hS hL;refine xa5 (swapB_of hw) fun w1 w2 w3 w4 w5 w6=>?_;obtain⟨nl,nz⟩:=names_of (nc:=nc) (P:=fun x=>env.kindOf x=some .local\/(env.kindOf x=some .cell/\(env.cells.lookup x).isSome=true/\x≠CLS)) (f:=swF env.scope ts) (fun x p=>by unfold swF;dsimp only;split;exact .inr rfl;exact .inl rfl) (tgNms_of (fun i x z=>isSt_of C z) hy) w3;refine Assign_Tuple_swapped (names:=ts.filterMap (swF env.scope ts)) (zB ((sndX G (.tup es) _ _ _ _ _ C hx).1 _ _ _ q s I hS hL) ?_ fun _ _ z=>z) (show swapsWith (.Tuple (toEs es r) r.an.k r.ps) (some (.Tuple ts k p)) pos.line env=pure false from swaps_other (fun _ _=>by simp) _) (swapped_of C.kind hw ht);rintro w s₁⟨y,S₁,I₁,⟨vs,rfl,hl,hi,q⟩,hS₁,hE₁,hL₁,hv⟩;refine xe2a2 (VR.tup_inv hv) fun _ _ e_2 g r=>?_;clear hv;subst e_2;have lr:=r.length;obtain⟨m,cm,hF,hM⟩:=id hL₁;rw[nl,<-hl,<-lr,<-List.size_toArray];refine unpackItems_tuple C.handled (isTup_of g) fun h' hx=>?_;have hk:∀b o,s₁.heap.get? b=some o->h'.get? b=some o:=fun b o e=>hx b o (Nat.ne_of_lt (Heap.lt_size e)) e;refine xa3 (grow hS₁ hF hM hk s₁.toks) fun S1 E1 F1 M1=>?_;generalize hnm:ts.filterMap (swF env.scope ts)=names at nl nz;rw[List.map_reverse];have e3:(names.map fun n=>bindName env n).reverse=((names.map fun n=>(n,bindName env n)).reverse).map (·.2):=by rw[List.map_reverse,List.map_map];rfl
 rw[e3];refine zB (stores_step (K:=fun μ S=>Q .next μ S) (W:=Wf env) _ is.reverse _ vs.reverse μ _ I₁ (by simpa using nl) ?_ S1 ⟨m,cm,F1,M1⟩ ((r.up E1.up).reverse) (by simpa using hl) (by rw[setAll_rev hn hl.symm];exact q)) ?_ fun _ _ z=>z
 .intro p hp v y μ s I K hS hL hv q;rw[zip_rev (by simpa using nl),List.mem_reverse,List.zip_map_left,yE]at hp;refine xea hp fun w hw e_2=>?_;subst e_2;obtain⟨z1,z2⟩:=nz w hw;exact bindName_ (storesF C N _ _ z1 z2 v y _ _ _ _ K hS hL hv q)
 .intro _ s₂ z;exact StQ.trans hE₁.eToF (StQ.trans E1.eToF (z.st (fun _ z=>z) fun _ _ z=>z))
set_option backward.match.sparseCases false
theorem as_comp(G:Good B){y:Str}(C:FC B A env d)(N:NCinj nc)(hx:chkX env.scope nc (.comp elt is src test nc') r=true)(hy:nc.lookup y=some i)(hk:env.kindOf y=some .local)(hp:(p.line==r.ps.line)=true)(hs:(r.an.sc.names.any fun(n,k)=>n==y&&(k==.local||k==.cell))=false)(q:wpX (WEd B d) (.comp elt is src test nc') μ S fun v S=>i<μ.length/\Q .next (μ.set i (some v)) S):ESt B A nc env (exec (.Assign [.Name y p] (.ListComp (toE elt (r.dn 0)) [⟨toFt is (r.dn 1),toSr src (r.dn 2),toEs test (r.sh 3),0⟩] r.an.sc r.ps) pos) env) μ S Q:=by
 intro s I hS hL;have hsw:swapsWith (.ListComp (toE elt (r.dn 0)) [⟨toFt is (r.dn 1),toSr src (r.dn 2),toEs test (r.sh 3),0⟩] r.an.sc r.ps) (some (.Name y p)) pos.line env=pure true:=by
  have hb:env.blockKind=.function:=by unfold Env.blockKind;rw[C.kind];rfl
  show(pure (env.blockKind==.function&&env.kindOf y==some .local&&p.line==r.ps.line&&!(r.an.sc.names.any fun(n,k)=>n==y&&(k==.local||k==.cell))):Sem Bool)=pure true;rw[hb,hk,hp,hs];rfl
 refine xa3 (a4 hx) fun h' h6 h7 h8=>?_;refine xa3 (a4 h') fun h2 h3 h4 h5=>?_;have h3:=zW h3;have h7:=zW h7;refine xa2 (ncIn_of h2) fun n1 n2 n3=>?_;obtain⟨tt,hsrc⟩:=sndSr G src _ _ _ _ _ _ C h5;rw[exec_Assign_Name_used _ _ _ _ hsw];refine zC (wpAny_standAt (zC ?_));show wpAny _ A (do let _<-comprehension (.ListComp (toE elt (r.dn 0)) [⟨toFt is (r.dn 1),toSr src (r.dn 2),toEs test (r.sh 3),0⟩] r.an.sc r.ps) r.an.sc env _ (newList []) false (eval (toSr src (r.dn 2)) env) (some (assign (.Name y p) env))) _ _ s;refine zC (zB (comp1_loop (P:=fun _ s'=>StQ B nc env s S I Q .next s') C (T:=fun μ' S K=>wpT1 (WEd B d) test μ' S K) (L:=fun μ' S Q=>wpX (WEd B d) elt μ' S Q) ⟨n2,n1,n3,tgOk_of cmpTg_of h4,h3,fun cenv fc hc μ' S K q=>(sndXs G test).2 _ _ _ _ _ fc (by rw[hc,relab_eq];exact h6) h7 _ _ _ q,fun cenv fc hc μ' S Q q=>(sndX G elt _ _ _ _ _ fc (by rw[hc,relab_eq];exact h8)).1 _ _ _ q⟩ q.1 (tame_fold tt env) (hsrc _ _ _ q.2 s I hS hL) ?_) (fun _ s' z=>zR (zR z)) fun _ _ z=>z);rintro cl Ca D s₅ S₅ I₅ acc fC fD hCD ca hC hE q0 _;obtain⟨hl,t,hi,q⟩:=q0;refine xe2a6e (comp_adopt t fC fD hCD ca hC hE) fun S' I' e_2 S1 E1 L1 hv oC m hn=>?_;subst e_2;refine zB (wpAny_assign_Name (storesF C N _ _ hy (.inl hk) _ _ _ _ _ _ (fun μ S=>Q .next μ S) S1 L1 hv q)) ?_ fun _ _ z=>z;rintro _ s₆⟨μ₆,S₆,I₆,q,S2,E2,L2⟩;have o6:Off B env s₆ S₆ I₆ Ca:=oC.ext E2 oC.frame;refine⟨m,?_,fun h' hs'=>?_⟩
 .refine xe3a2 hn fun o es ep g1 g2 g3=>?_;exact⟨o,es,ep,E2.keep _ _ g1 oC.frame oC.live,g2,g3⟩
 .have NN:Nudge [Ca] s₆ {s₆ with heap:=h'}:=Nudge.same (k:=s₆.toks) hs';obtain⟨S3,up⟩:=S2.nudge (off_one o6) NN;exact⟨.next,μ₆,S₆,I₆,q,S3,(E1.eToF.trans E2).nudge S2 (off_one o6) NN (fun a h=>by rw[zD]at h;rw[h];exact fC),L2.nudge S2 (off_one o6) NN,.next⟩
theorem asg_sub{i:Expr}{P:Unit->Shared->Prop}(h:wpAny M A (eval o env) (fun ov s₂=>wpAny M A (eval i env) (fun iv s₃=>wpAny M A (setItem ov iv v) P E s₃) E s₂) E s):wpAny M A (assign (.Subscript o i pos) env v) P E s:=by
 rw[assign_Subscript];refine zC (wpAny_holding (zB h (fun ov s₁ h₁=>zC (wpAny_holding (zB h₁ (fun iv s₂ h₂=>zC (wpAny_standAt (zC (wpAny_holding (zB h₂ (fun _ s₃ h₃=>?_) fun _ _ z=>z))))) fun _ _ z=>z))) fun _ _ z=>z));exact wpAny_release h₃
theorem asg_item(G:Good B){o i:X}{K:AS->Prop}(C:FC B A env d)(ho:chkX env.scope nc o ro=true)(hi:chkX env.scope nc i ri=true)(hS:SR B s S I)(hL:LR B nc env s.heap I S μ)(hv:VR s.heap I S.n v y)(q:wpX (WEd B d) o μ S fun o S=>wpX (WEd B d) i μ S fun k S=>itemSet o k y S K):wpAny (model B.prog B.w) A (assign (.Subscript (toE o ro) (toE i ri) p) env v) (fun _=>UnQ B nc env μ s S I K) (fun _ _=>False) s:=by
 refine asg_sub (zB ((sndX G o _ _ _ _ _ C ho).1 _ _ _ q s I hS hL) ?_ fun _ _ z=>z);rintro u s₂⟨z,S₂,I₂,q,hS₂,hE₂,hL₂,hu⟩;refine zB ((sndX G i _ _ _ _ _ C hi).1 _ _ _ q s₂ I₂ hS₂ hL₂) ?_ fun _ _ z=>z;rintro k s₃⟨kz,S₃,I₃,q,hS₃,hE₃,hL₃,hk⟩;refine zB (setItem_step C hS₃ hL₃ (hu.up hE₃.up) hk ((hv.up hE₂.up).up hE₃.up) q) ?_ fun _ _ z=>z;rintro _ s₄⟨S₄,I₄,q,a,b,c⟩;exact⟨S₄,I₄,q,a,(hE₂.trans hE₃).trans b,c⟩
theorem unswapped{i o' i':Expr}{q q':Pos}{k':Nat}:swappedStores [.Tuple [.Subscript o i p,.Subscript o' i' p'] k q] (.Tuple vs k' q') env=pure none:=by
  unfold swappedStores;dsimp only;split;.rfl
  . split;.rfl
    .rw[zU (by rfl)]
theorem as_sub2(G:Good B){o i o2 i2:X}{p2 q0:Pos}{ro2 ri2:Rp}(C:FC B A env d)(hx:chkX env.scope nc (.tup es) r=true)(ho:chkX env.scope nc o ro=true)(hi:chkX env.scope nc i ri=true)(ho2:chkX env.scope nc o2 ro2=true)(hi2:chkX env.scope nc i2 ri2=true)(q:wpX (WEd B d) (.tup es) μ S fun v S=>wpTg (WEd B d) (.sub2 o i o2 i2) v μ S fun μ S=>Q .next μ S):ESt B A nc env (exec (.Assign [.Tuple [.Subscript (toE o ro) (toE i ri) p,.Subscript (toE o2 ro2) (toE i2 ri2) p2] k q0] (.Tuple (toEs es r) r.an.k r.ps) pos) env) μ S Q:=by
 intro s I hS hL;refine Assign_Tuple (zB ((sndX G (.tup es) _ _ _ _ _ C hx).1 _ _ _ q s I hS hL) ?_ fun _ _ z=>z) (show swapsWith (.Tuple (toEs es r) r.an.k r.ps) (some (.Tuple [.Subscript (toE o ro) (toE i ri) p,.Subscript (toE o2 ro2) (toE i2 ri2) p2] k q0)) pos.line env=pure false from swaps_other (fun _ _=>by simp) _) unswapped;rintro w s₁⟨y,S₁,I₁,q,hS₁,hE₁,hL₁,hw⟩;obtain⟨a,b,rfl,q⟩:=q;obtain⟨_,_,rfl,g,r⟩:=VR.tup_inv hw;obtain⟨va,vb,rfl,ra,rb⟩:=vrs2 r;obtain⟨m,cm,hF,hM⟩:=id hL₁;refine assign_Tuple_tuple C.handled (isTup_of g) rfl rfl fun h' hx=>?_;have hk:∀b o,s₁.heap.get? b=some o->h'.get? b=some o:=fun b o e=>hx b o (Nat.ne_of_lt (Heap.lt_size e)) e;obtain⟨S1,E1,F1,M1⟩:=grow hS₁ hF hM hk s₁.toks;refine wpAny_assignInOrder_more ?_;refine zB (asg_item (s:={s₁ with heap:=h'}) (μ:=μ) G C ho hi S1 ⟨m,cm,F1,M1⟩ (ra.up E1.up) q) ?_ fun _ _ z=>z;rintro _ s₂⟨S₂,I₂,q,hS₂,hE₂,hL₂⟩;refine wpAny_assignInOrder_more ?_;refine zB (asg_item (μ:=μ) G C ho2 hi2 hS₂ hL₂ ((rb.up E1.up).up hE₂.up) q) ?_ fun _ _ z=>z;rintro _ s₃⟨S₃,I₃,q,hS₃,hE₃,hL₃⟩;exact wpAny_assignInOrder_none ⟨.next,μ,S₃,I₃,q,hS₃,(((hE₁.trans E1).trans hE₂).trans hE₃).eToF,hL₃,.next⟩
variable{k:Str->Option NameKind}
theorem toEs_tame:∀(es:Xs)(r:Rp),(toEs es r).all tame=true
 |.nil,_=>rfl|.cons x xs,r=>by
  show(tame (toE x (r.dn 0))&&(toEs xs (r.sh 1)).all tame)=true;rw[toE_tame,toEs_tame xs];rfl
theorem st_asg(G:Good B)(t:Tg)(x:X):SndS B (.asg t x):=by
 intro A nc env d e C N h μ S Q q;obtain⟨hx,h⟩:=a2 h;rcases(Bool.or_eq_true _ _).mp h with h|h;.cases t with
  |nm i=>
   obtain⟨h1,h2⟩:=a2 h;refine as_name G C N hx h1 (((Bool.or_eq_true _ _).mp h2).imp (fun z=>Bool.not_eq_true' _▸z) fun z=>?_) q;unfold kindIs at z;rw[yG]at z;exact z|«at»o a=>exact as_attr G C hx h rfl q|sub o i=>exact as_sub G C hx (a2 h).1 (a2 h).2 q|nms is=>
   refine xa3 (a4 h) fun h1 h2 h3 h4=>?_;clear h
   cases c:tupX x with|some es=>
    rw[c]at h4;cases tupX_of c;exact as_swap G C N hx h3 (zW h1) (zW h2) h4 (toEs_tame _ _) q|none=>
    rw[c]at h4;exact as_nms G C N hx h3 (zW h1) (Bool.not_eq_true' _▸h4) q
  |sub2 o i o' i'=>
   refine xa3 (a4 h) fun h' h3 h4 h5=>?_;clear h;obtain⟨h1,h2⟩:=a2 h';obtain⟨es,h5⟩:=Option.isSome_iff_exists.mp h5;cases tupX_of h5;exact as_sub2 G C hx h1 h2 h3 h4 q
 .cases t with|nm i=>
   refine xe5 (isCompX_of (and_l h)) fun a b c d e e_5=>?_;subst e_5;refine xa3 (a4 h) fun h1 h2 h3 h4=>?_;rw[yG]at h1;exact as_comp G C N hx h1 (by unfold kindIs at h2;rw[yG]at h2;exact h2) h3 (Bool.not_eq_true' _▸h4) q|_=>exact ff h
variable{Q:VQ}
mutual theorem sndS{B:Base}(G:Good B):∀x:St,SndS B x|.ex x=>st_ex G x|.asg t x=>st_asg G t x|.ifs c a b=>st_ifs G (sndSs G a) (sndSs G b)|.whl c b=>st_whl G (sndSs G b)|.for_ is src b=>st_for G (sndSs G b)|.ret x=>st_ret G x|.ret0=>st_ret0|.brk=>st_brk|.cont=>st_cont|.boom=>st_boom theorem sndSs{B:Base}(G:Good B):∀x:Sts,SndSs B x|.nil=>sts_nil|.cons x r=>sts_cons (sndS G x) (sndSs G r)end
set_option backward.match.sparseCases true
def retQ(Q:VQ):SQ:=fun fl _ S=>match fl with|.ret v=>Q v S|.next=>Q .none S|_=>False
structure Entry(B:Base)(fd:FuncData)(names:List Str)(nc:NC)(body:Sts)(stmts:List Stmt)(dfl:List Value)(dv:List Val):Prop where
 code:fd.body=.stmts stmts
 bind:∀(s:Shared)(vals:List Value),(∀b o,B.hp.get? b=some o->s.heap.get? b=some o)->vals.length+dfl.length=names.length->BindsTo s fd ⟨vals,[]⟩ (names.zip (vals++dfl))
 dfr:∀h I n,VRs h I n dfl dv
 clo:fd.closure=[]
 kinds:∀x∈names,fd.scope.names.lookup x=some .local\/fd.scope.names.lookup x=some .cell
 nodup:names.Nodup
 chk:CkSs fd.scope nc body stmts
 inj:ncOk nc=true
 idx:∀x i,nc.lookup x=some i->i<names.length->names[i]?=some x
 co:fd.scope.isCoroutine=false
 gen:fd.scope.isGenerator=false
 kind:fd.scope.kind=.function
 free:∀x∈fd.scope.names,x.2≠.free
theorem bindL_skip:∀{l:List (Str×Value)}{m:Str->Option Value},(∀p∈l,p.1≠x)->bindL k l m x=m x:=by
 intro v;induction v with
 |nil=>
  intro m _;exact rfl|cons b0 r ih=>
  obtain⟨n,v⟩:=b0;intro m h;unfold bindL;rw[ih fun p hp=>h p (zI _ hp)];have :x≠n:=fun e=>h (n,v) (zF ..) e.symm;split;.exact zN this
  .rfl
theorem bindL_get(hk:k x=some .local):∀{l:List (Str×Value)}{m:Str->Option Value},(l.map (·.1)).Nodup->(x,u)∈l->bindL k l m x=some u:=by
 intro v;induction v with
 |nil=>
  intro m _ h;cases h|cons b0 r ih=>
  obtain⟨n,v⟩:=b0;intro m hn h;rw[List.map_cons,List.nodup_cons]at hn;unfold bindL;rcases zL.mp h with e|h
  .clear h;cases e;rw[bindL_skip fun p hp e=>hn.1 (yE.mpr ⟨p,hp,e⟩),zU hk];exact zU rfl
  .exact ih hn.2 h
theorem bindC_skip:∀{l:List (Str×Value)}{m:Str->Option Value},(∀p∈l,p.1≠x)->bindC k l m x=m x:=by
 intro v;induction v with
 |nil=>
  intro m _;exact rfl|cons b0 r ih=>
  obtain⟨n,v⟩:=b0;intro m h;unfold bindC;rw[ih fun p hp=>h p (zI _ hp)];have :x≠n:=fun e=>h (n,v) (zF ..) e.symm;split;.rfl
  .exact zN this
theorem bindC_get(hk:k x≠some .local):∀{l:List (Str×Value)}{m:Str->Option Value},(l.map (·.1)).Nodup->(x,u)∈l->bindC k l m x=some u:=by
 intro v;induction v with
 |nil=>
  intro m _ h;cases h|cons b0 r ih=>
  obtain⟨n,v⟩:=b0;intro m hn h;rw[List.map_cons,List.nodup_cons]at hn;unfold bindC;rcases zL.mp h with e|h
  .clear h;cases e;rw[bindC_skip fun p hp e=>hn.1 (yE.mpr ⟨p,hp,e⟩),zN hk];exact zU rfl
  .exact ih hn.2 h
variable{k:Nat}
theorem cellsFrom_has:∀(names:List (Str×NameKind))(n:Nat)(acc:List (Str×Addr)),((x,NameKind.cell)∈names\/(acc.lookup x).isSome=true)->((cellsFrom n names acc).lookup x).isSome=true:=by
 intro v;induction v with
 |nil=>
    intro _ acc h;rcases h with h|h;.cases h
    .exact h|cons b0 r ih=>
    obtain⟨y,k⟩:=b0;intro n acc h;unfold cellsFrom;split
    . rename_i hk;refine ih _ _ ?_;rcases h with h|h
      . rcases zL.mp h with e|h
        .clear h;cases e;exact .inr (by rw[yK,beq_self_eq_true];rfl)
        .exact .inl h
      . refine .inr ?_;rw[yK];split;.rfl
        .exact h
    . rename_i hk;refine ih _ _ ?_;rcases h with h|h
      . rcases zL.mp h with e|h;.clear h;cases e;exact absurd rfl hk
        .exact .inl h
      .exact .inr h
theorem size_of(tip:∀n,B.hp.objs.size=n+1->∃o,B.hp.get? n=some o)(hS:SR B s S I):B.hp.objs.size<=s.heap.objs.size:=by
 cases h:B.hp.objs.size with|zero=>exact lA 0x7060002 tT|succ n=>
  obtain⟨o,ho⟩:=tip n h;exact Heap.lt_size (hS.keep _ _ ho)
structure FnAt(B:Base)(a:Addr)(fd:FuncData):Prop where
 fo:∃o,B.hp.get? a=some o/\o.data=.func fd
 code:B.hp.CodeRec fd.code fd.qualname
 glob:fd.globals=mainGlobals/\fd.builtins=builtinsNs
def CallsAt(B:Base)(d:Nat)(a:Addr)(vs:List Val)(S:AS)(Q:VQ):Prop:=∀A s I vals,Rm A d->SR B s S I->VRs s.heap I S.n vals vs->codeAny (model B.prog B.w) A (.call (.ref a) ⟨vals,[]⟩) (fun r s'=>∃v x S' I',r=.ok (.ret v)/\Q x S'/\SR B s' S' I'/\Ext (fun _=>False) s S I s' S' I'/\VR s'.heap I' S'.n v x) s
theorem FnAt.of(G:Good B)(f:Fn):FnAt B (B.fa f) (B.fd f):=⟨G.fo f,G.code f,G.fglob f⟩
theorem callsAt_intro(G:Good B)(tip:∀n,B.hp.objs.size=n+1->∃o,B.hp.get? n=some o)(FA:FnAt B a fd)(E:Entry B fd names nc body stmts dfl dv)(hl:vs0.length+dv.length=names.length)(h:wpSts (WEd B d) body ((vs0++dv).map some++List.replicate k none) S (retQ Q)):CallsAt B (d+1) a vs0 S Q:=by
  intro A s I vals0 R hS hv0;refine xea FA.fo fun o ho hd=>?_;have hv:VRs s.heap I S.n (vals0++dfl) (vs0++dv):=hv0.append (E.dfr _ _ _);have hvl:(vals0++dfl).length=names.length:=by rw[hv.length,zJ,hl]
  have hl:(vs0++dv).length=names.length:=by rw[zJ,hl]
  have hb:=E.bind s vals0 hS.keep (by rw[<-zJ];exact hvl);revert h hv hvl hl hb;generalize vs0++dv=vs;generalize vals0++dfl=vals;intro h hv hvl hl hb;have hsz:=size_of tip hS;refine codeAny_call_function (by have :=R.depth;show A.depth<1000;exact lB 0x7064383320414a2041210001683e33200 tT this) (hS.keep _ _ ho) hd E.co E.gen E.code (FA.code.keeps hS.keep) (hb _ _ _ _ ?_);rw[E.clo];suffices hh:(∀x∈names.zip vals,fd.scope.names.lookup x.1=some .local\/(fd.scope.names.lookup x.1=some .cell/\((cellsFrom (s.heap.objs.size+1) fd.scope.names []).lookup x.1).isSome=true))/\∀s₁,InCallC s (callEnvC fd s.heap.objs.size a).locals (bindL (callEnvC fd s.heap.objs.size a).kindOf (names.zip vals) fun _=>none) (callEnvC fd s.heap.objs.size a).cells (bindC (callEnvC fd s.heap.objs.size a).kindOf (names.zip vals) fun _=>none) s₁->wpAny (model B.prog B.w) (A.deeper (callEnvC fd s.heap.objs.size a)) (execs stmts (callEnvC fd s.heap.objs.size a)) (fun f s'=>∃v x S' I',(Except.ok (.ret (match f with|.ret v=>v|_=>.none)):Result)=.ok (.ret v)/\Q x S'/\SR B s' S' I'/\Ext (fun _=>False) s S I s' S' I'/\VR s'.heap I' S'.n v x) (fun e s'=>wpAny (model B.prog B.w) (A.deeper (callEnvC fd s.heap.objs.size a)) (leaving (callEnvC fd s.heap.objs.size a) e) (fun _ s''=>∃v x S' I',(Except.error e:Result)=.ok (.ret v)/\Q x S'/\SR B s'' S' I'/\Ext (fun _=>False) s S I s'' S' I'/\VR s''.heap I' S'.n v x) (fun e' s''=>∃v x S' I',(Except.error e':Result)=.ok (.ret v)/\Q x S'/\SR B s'' S' I'/\Ext (fun _=>False) s S I s'' S' I'/\VR s''.heap I' S'.n v x) s') s₁ by
    refine wpAny_newFunctionEnv_cells E.kind hh.1 fun env he s' x=>?_;subst he;exact⟨(G.nolim.keeps hS.keep).keeps x.toInCall.keep,codeAny_func (hh.2 s' x)⟩
  refine⟨?_,?_⟩
  . intro x hx;have hx1:=(List.of_mem_zip (a:=x.1) (b:=x.2) hx).1;rcases E.kinds _ hx1 with z|z;.exact .inl z
    .exact .inr ⟨z,cellsFrom_has _ _ _ (.inl (lookup_mem z))⟩
  . intro s₁ X;have C:FC B (A.deeper (callEnvC fd s.heap.objs.size a)) (callEnvC fd s.heap.objs.size a) d:=by
      refine⟨E.kind,FA.glob.1,FA.glob.2,?_,?_,R.handled,fun x k hx hk=>?_⟩;.have :=R.depth;show A.depth+1+10*d+5<=900;exact lB 0x7064383320414a2041210000643833204520414a210041200 tT this
      .have :=R.units;show A.units+3+100*d+50<=9000;exact lB 0x70683233322041443620412100006832333220423320414436210043200 tT this
      . rcases hk with rfl|rfl;.exact cellsFrom_has _ _ _ (.inl (lookup_mem hx))
        .exact absurd rfl (E.free _ (lookup_mem hx))
    have old:=X.toInCall.keep;refine xe2 X.toInCall.same fun h1 tk e_2=>?_;subst e_2;obtain⟨S1,E1⟩:=hS.kept (s':={s with heap:=h1,toks:=tk}) (W:=fun _=>False) (fun a o e _=>old a o e) (fun _ z=>z.elim) (fun _ _ z=>z.elim) (fun _ _ _ _ z=>z) (fun a e=>by
   cases q:s.heap.get? a with|none=>rfl|some o=>have :=old a o q;rw[e]at this;cases this) rfl rfl;have freshL:s.heap.get? s.heap.objs.size=none:=size_none _;have offL:∀t v o',S.H t=some (v,o')->∀a,s.heap.objs.size<=a->(I t v).cell≠a:=fun t v o' e a ha q=>by
      refine xea (hS.shape e) fun ob h _=>?_;rw[q]at h;exact absurd (Heap.lt_size h) (Nat.not_lt.mpr ha)
    have L1:LR B nc (callEnvC fd s.heap.objs.size a) h1 I S (vs.map some++List.replicate k none):=by
      refine⟨_,_,⟨X.toInCall.ns,hsz,fun n c _ hc=>X.cell n c hc,X.apart,fun n c _ hc=>?_,fun t v o e=>offL t v o e _ (yO _)⟩,fun x i hx y hy=>?_⟩;.have :=X.above n c hc;exact⟨Nat.ne_of_lt this,zE hsz (Nat.le_of_lt this)⟩
      . have hi:i<vs.length:=by
          rcases Nat.lt_or_ge i vs.length with h|h;.exact h
          .rw[List.getElem?_append_right (by rw[zA];exact h),List.getElem?_replicate]at hy;split at hy<;>cases hy
        rw[zZ (by rw[zA];exact hi),zX]at hy;have hy':vs[i]?=some y:=by
          cases q:vs[i]? with|none=>rw[q]at hy;cases hy|some z=>rw[q]at hy;simpa using hy
        have hn:=E.idx x i hx (hl▸hi);refine xea (hv.get hy') fun u hu ru=>?_;have hz:(x,u)∈names.zip vals:=by
          have :(names.zip vals)[i]?=some (x,u):=by rw[List.getElem?_zip_eq_some];exact⟨hn,hu⟩
          exact yB this
        have hnd:((names.zip vals).map (·.1)).Nodup:=by
          rw[List.map_fst_zip (by exact lB 0x77f7f250010061000 tT hvl)];exact E.nodup
        refine⟨u,?_,ru.up E1.up⟩;rcases E.kinds x (yB hn)with z|z;.exact .inl ⟨z,bindL_get z hnd hz⟩
        .exact .inr ⟨.inl z,bindC_get (by show fd.scope.names.lookup x≠_;rw[z];simp) hnd hz,cellsFrom_has _ _ _ (.inl (lookup_mem z))⟩
    refine xea E.chk fun rp est hck=>?_;subst est;refine zB (sndSs G body _ _ _ _ _ C (ncOk_inj E.inj) hck _ _ _ h _ _ S1 L1) ?_ fun _ _ z=>z.elim;rintro fl s₂⟨fl',μ',S',I',q,S2,E2,L2,hf⟩;have nW:∀a o,s.heap.get? a=some o->¬Wf (callEnvC fd s.heap.objs.size a) a:=fun a o ha h=>by
      have hlt:=Heap.lt_size ha;rcases h with h|⟨n,hx,h⟩;.rw[h]at hlt;exact absurd hlt (Nat.lt_irrefl _)
      .have :=X.above n a (lookup_mem h);exact absurd (Nat.lt_trans this hlt) (Nat.lt_irrefl _)
    have E3:Ext (fun _=>False) s S I s₂ S' I':=(E1.weaken fun a z=>z.elim).trans E2|>.weaken fun a z=>by
      cases q:s.heap.get? a with|none=>exact .inr rfl|some o=>exact(nW a o q z).elim
    cases hf with|next=>exact⟨.none,.none,S',I',rfl,q,S2,E3,.none⟩|brk=>exact q.elim|cont=>exact q.elim|ret v=>exact⟨_,_,S',I',rfl,q,S2,E3,v⟩
theorem calls_intro(G:Good B)(tip:∀n,B.hp.objs.size=n+1->∃o,B.hp.get? n=some o)(E:Entry B (B.fd f) names nc body stmts dfl dv)(hl:vs0.length+dv.length=names.length)(h:wpSts (WEd B d) body ((vs0++dv).map some++List.replicate k none) S (retQ Q)):Calls B (d+1) f vs0 S Q:=callsAt_intro G tip (FnAt.of G f) E hl h
set_option backward.match.sparseCases false
structure SuperAt(B:Base)(a:Addr)(fd:FuncData)(names:List Str)(st:Stmt)(restS:List Stmt)(D cc cda:Addr):Prop where
 code:fd.body=.stmts (st::restS)
 stE:∃p0 p1 p2 p3 p4 p5,st=.Expr (.Call (.Attribute (.Call (.Name "super" p0) [] [] p1) "__init__" p2) [.Name "hook" p3] [] p4) p5/\(p2.endLine==p4.line)=true
 clo:fd.closure=[(("__class__":Str),cc)]
 nms:names=([("self":Str),("proof":Str),("hook":Str)]:List Str)
 loc:∀x∈names,fd.scope.names.lookup x=some .local
 cell:∀x∈fd.scope.names,x.2≠.cell
 par:∃ar,(fd.params.posonlyargs++fd.params.args).head?=some ar/\ar.arg="self"
 ks:fd.scope.names.lookup ("super":Str)=some .globalImplicit
 kc:fd.scope.names.lookup ("__class__":Str)=some .free
 frees:∀x∈fd.scope.names,x.2=.free->x.1="__class__"
 ecda:fd.code=.ref cda
 kcode:∃ccl cdd vs ccs file tf,B.K.lookup cda=some ⟨ccl,cdd,.fields vs,ccs⟩/\vs[2]?=some (.str file tf)/\((B.prog.main.file:Str)==file)=true
 kcell:∃cl cld csl,B.K.lookup cc=some ⟨cl,cld,.cell (some (.ref D)),csl⟩
 kD:(clsIn B.K D).isSome=true
 sub:mroIn B.K (B.ca .search) (.ref D)=some true
 mgs:B.mg "super"=none
 tp:nsIn B.K cStatics "thirdparty.any"=some none
 top:(B.prog.main.scope.names.lookup ("super":Str)).isSome=false
 boot:bootBuiltins "super"=some (.type "super")
 meth:ks_superIn B.K (B.ca .search) D "__init__"=some (some (.ref (B.fa .t_init)))
 methT:typeIn B.K (.ref (B.fa .t_init))=some (.type "function")
 fnIn:fnIn B.K (B.fa .t_init)=true
theorem methodAt_xs{c:Code}{es:List Expr}{P:Value->Shared->Prop}(ht:∀e∈es,tame e=true)(hl:es.length<30)(hp:(apos.endLine==pos.line)=true)(h:_root_.PySem.wpAt (model B.prog B.w) A c (attributeBase o name env (eval o env)) (fun ov s₁=>∀pl,wpAny (model B.prog B.w) A (getMethod ov name pl) (fun fx s₂=>wpAny (model B.prog B.w) A (callWith pos fx.1 fx.2 (backTo pos (starEach es env)) []) P (fun _ _=>False) s₂) (fun _ _=>False) s₁) (fun _ _=>False) s):_root_.PySem.wpAt (model B.prog B.w) A c (eval (.Call (.Attribute o name apos) es [] pos) env) P (fun _ _=>False) s:=by
 show _root_.PySem.wpAt _ A c (do
  let ov<-attributeBase o name env (eval o env);standAt apos.atName;methodCall o name apos pos env ov (es.length+0) (backTo pos (starEach es env)) []) _ _ s;have hf:methodCallForm (es.length+0) (backTo pos (starEach es env)) []=true:=by
  unfold methodCallForm;have h1:(backTo pos (starEach es env)).all (fun x=>!x.1)=true:=by
   rw[yL];intro x hx;have :=List.any_eq_false.mp (plain_args (pos:=pos) (env:=env) ht) x hx;simpa using this
  rw[h1];simp;exact lA 0x716e3120016e31200 tT hl
 refine _root_.PySem.wpAt_bind (ks_wpAt_mono h (fun ov s₁ h₁=>_root_.PySem.wpAt_of_wpAny (zC (wpAny_standAt ?_))) fun _ _ z=>z);unfold methodCall;rw[hf];refine zC (wpAny_holding ?_);show wpAny _ A (getMethod ov name _) _ _ s₁;refine zB (h₁ _) (fun fx s₂ h₂=>?_) fun _ _ z=>z;obtain⟨f,first⟩:=fx;dsimp only;have hq:methodCallPos true o env apos pos=pure pos:=by
  unfold methodCallPos;rw[hp];rfl
 rw[hq];exact zC (zR h₂)
theorem cls_of{K:Frag}(X:K.In h){cd:ClassData}(e:clsIn K D=some cd):∃o,h.get? D=some o/\o.data=.cls cd:=by
 delta clsIn at e;cases ho:K.lookup D with|none=>rw[ho]at e;exact ns e|some ob=>
  rw[ho]at e;obtain⟨c,d,y,sl⟩:=ob;cases y with|cls c=>cases e;exact⟨_,X _ _ ho,rfl⟩|_=>exact ns e
inductive SupQ(B:Base)(s:Shared)(S:AS)(I:Interp)(Q:VQ)(f:Flow)(s':Shared):Prop|mk{fl:Fl}{μ':Mu}{S':AS}{I':Interp}:retQ Q fl μ' S'->SR B s' S' I'->Ext (fun _=>False) s S I s' S' I'->FlR s'.heap I' S'.n f fl->SupQ B s S I Q f s'
set_option tactic.hygienic true in theorem three_get{P:Str->Val->Prop}{a b c:Str}{u v w:Val}(h0:P a u)(h1:P b v)(h2:P c w)(hi:i<3)(hn:[a,b,c][i]?=some x)(hy:([some u,some v,some w]++List.replicate k none)[i]?=some (some y)):P x y:=by
 cases i with|zero=>cases hn;cases hy;exact h0|succ i=>cases i with|zero=>cases hn;cases hy;exact h1|succ i=>cases i with|zero=>cases hn;cases hy;exact h2|succ i=>exact absurd hi (by simp)
theorem callsS_intro(G:Good B)(tip:∀n,B.hp.objs.size=n+1->∃o,B.hp.get? n=some o){cc cda:Addr}(FA:FnAt B a fd){st:Stmt}{restS:List Stmt}(U:SuperAt B a fd names st restS D cc cda)(bind:∀(s:Shared)(vals:List Value),(∀b o,B.hp.get? b=some o->s.heap.get? b=some o)->vals.length=names.length->BindsTo s fd ⟨vals,[]⟩ (names.zip vals))(chk:CkSs fd.scope nc body restS)(inj:ncOk nc=true)(idx:∀x i,nc.lookup x=some i->i<names.length->names[i]?=some x)(co:fd.scope.isCoroutine=false)(gen:fd.scope.isGenerator=false)(kind:fd.scope.kind=.function)(e:S.H t=some (n,.inst .search at_)){x1 x2:Val}(h:Calls B d .t_init [.loc t n,x2] S fun _ S1=>wpSts (WEd B d) body ([some (.loc t n),some x1,some x2]++List.replicate k none) S1 (retQ Q)):CallsAt B (d+1) a [.loc t n,x1,x2] S Q:=by
  intro A s I vals R hS hv;refine xea FA.fo fun o ho hd=>?_;obtain⟨v0,v1,v2,rfl,r0,r1,r2⟩:∃v0 v1 v2,vals=[v0,v1,v2]/\VR s.heap I S.n v0 (.loc t n)/\VR s.heap I S.n v1 x1/\VR s.heap I S.n v2 x2:=by
    cases hv with|cons a r=>cases r with|cons b r=>cases r with|cons c r=>cases r;exact⟨_,_,_,rfl,a,b,c⟩
  have hnm:=U.nms;clear hv;have hv0:v0=.ref (I t n).id:=(inst_at hS r0 e rfl).elim fun _ q=>q.elim fun _ q=>q.1;subst hv0;have hb:BindsTo s fd ⟨[.ref (I t n).id,v1,v2],[]⟩ [(("self":Str),.ref (I t n).id),(("proof":Str),v1),(("hook":Str),v2)]:=by
    have :=bind s [.ref (I t n).id,v1,v2] hS.keep (by rw[hnm];rfl);rw[hnm]at this;exact this
  have hsz:=size_of tip hS;refine xe6a U.stE fun p0 p1 p2 p3 p4 p5 e_6 hpp=>?_;subst e_6;refine ks_codeAny_call_defAt (fd:=fd) (body:=_) (binds:=[(("self":Str),.ref (I t n).id),(("proof":Str),v1),(("hook":Str),v2)]) (by have :=R.depth;show A.depth<1000;exact lB 0x7064383320414a2041210001683e33200 tT this) (hS.keep _ _ ho) hd (G.nolim.keeps hS.keep) (FA.code.keeps hS.keep) U.code hb U.cell (fun x hx=>U.loc _ (by rw[hnm];simp only[zL,List.not_mem_nil,or_false]at hx⊢;rcases hx with rfl|rfl|rfl<;>simp)) (fun h₁ hns hk₁=>?_) co gen kind;have hdep:A.depth+10*(d+1)<=900:=R.depth;have hun:A.units+100*(d+1)<=9000:=R.units;generalize hE:callEnv fd s.heap.objs.size a=env;have eloc:env.locals=s.heap.objs.size:=by rw[<-hE];rfl
  have esc:env.scope=fd.scope:=by rw[<-hE];rfl
  have ecl:env.cells=[(("__class__":Str),cc)]:=by rw[<-hE];exact U.clo
  have C:FC B (A.deeper env) env d:=by
    refine⟨esc▸kind,by rw[<-hE];exact FA.glob.1,by rw[<-hE];exact FA.glob.2,?_,?_,R.handled,fun x k hx hk=>?_⟩;.show A.depth+1+10*d+5<=900;exact lB 0x7064383320414a2041210000643833204520414a210041200 tT hdep
    .show A.units+3+100*d+50<=9000;exact lB 0x70683233322041443620412100006832333220423320414436210043200 tT hun
    . rw[esc]at hx;rcases hk with rfl|rfl;.exact absurd rfl (U.cell _ (lookup_mem hx))
      .have :=U.frees _ (lookup_mem hx) rfl;dsimp only at this;clear hx;subst this;rw[ecl];rfl
  have freshL:s.heap.get? s.heap.objs.size=none:=size_none _;have offL:∀t v o',S.H t=some (v,o')->(I t v).cell≠s.heap.objs.size:=fun t v o' e q=>by
    refine xea (hS.shape e) fun ob h _=>?_;rw[q]at h;exact absurd (Heap.lt_size h) (Nat.lt_irrefl _)
  have step:∀(h2:Heap)(tk:Nat),(∀b o,h₁.get? b=some o->h2.get? b=some o)->SR B {s with heap:=h2,toks:=tk} S I/\Ext (fun _=>False) s S I {s with heap:=h2,toks:=tk} S I/\FR B env h2 I S (fun y=>[(("self":Str),.ref (I t n).id),(("proof":Str),v1),(("hook":Str),v2)].reverse.lookup y) (fun _=>none)/\LR B nc env h2 I S ([some (.loc t n),some x1,some x2]++List.replicate k none):=fun h2 tk k2=>by
    have kk:∀b o,s.heap.get? b=some o->h2.get? b=some o:=fun b o q=>k2 _ _ (hk₁ _ _ q);obtain⟨S1,E1⟩:=hS.kept (s':={s with heap:=h2,toks:=tk}) (W:=fun _=>False) (fun a o e _=>kk a o e) (fun _ z=>z.elim) (fun _ _ z=>z.elim) (fun _ _ _ _ z=>z) (fun a e=>by
   cases q:s.heap.get? a with|none=>rfl|some o=>have :=kk a o q;rw[e]at this;cases this) rfl rfl;have F1:FR B env h2 I S (fun y=>[(("self":Str),.ref (I t n).id),(("proof":Str),v1),(("hook":Str),v2)].reverse.lookup y) (fun _=>none):=by
      refine⟨?_,by rw[eloc];exact hsz,fun n c hn hc=>?_,?_,fun n c hn hc=>?_,fun t v o e=>eloc▸offL t v o e⟩;.rw[eloc];exact hns.keeps k2
      .rw[ecl,yK]at hc;rw[show((n==("__class__":Str))=false)from zQ.mpr hn]at hc;cases hc
      .rw[ecl];exact List.pairwise_singleton ..
      .rw[ecl,zD]at hc;cases hc;exact absurd rfl hn
    refine⟨S1,E1,F1,_,_,F1,fun x i hx y hy=>?_⟩;have hi:i<3:=by
      rcases Nat.lt_or_ge i 3 with h|h;.exact h
      .rw[List.getElem?_append_right h,List.getElem?_replicate]at hy;split at hy<;>cases hy
    have hn:=idx x i hx (by rw[hnm];exact hi);have hkx:env.kindOf x=some .local:=by
      show env.scope.names.lookup x=_;rw[esc];exact U.loc x (yB hn)
    rw[hnm]at hn;revert hkx;refine three_get (P:=fun x y=>env.kindOf x=some .local->∃v,((env.kindOf x=some .local/\List.lookup x [(("self":Str),.ref (I t n).id),(("proof":Str),v1),(("hook":Str),v2)].reverse=some v)\/((env.kindOf x=some .cell\/env.kindOf x=some .free)/\none=some v/\(List.lookup x env.cells).isSome=true))/\VR h2 I S.n v y) ?_ ?_ ?_ hi hn hy;.exact fun hkx=>⟨_,.inl ⟨hkx,rfl⟩,r0.up E1.up⟩
    .exact fun hkx=>⟨v1,.inl ⟨hkx,rfl⟩,r1.up E1.up⟩
    .exact fun hkx=>⟨v2,.inl ⟨hkx,rfl⟩,r2.up E1.up⟩
  refine ks_wpAt_mono (Q:=SupQ B s S I Q) (E:=fun _ _=>False) ?_ (fun fl s5 h=>?_) fun _ _ z=>z.elim;rotate_left;.obtain⟨q,hS5,E6,hf⟩:=h;cases hf with|next=>exact⟨.none,.none,_,_,rfl,q,hS5,E6,.none⟩|brk=>exact q.elim|cont=>exact q.elim|ret v=>exact⟨_,_,_,_,rfl,q,hS5,E6,v⟩
  refine ks_wpAt_execs_cons ?_;refine ks_wpAt_Expr_any ?_ (by unfold interactive;rw[C.kind];rfl) (by rfl);refine methodAt_xs (fun e he=>zD.mp he▸rfl) (by show 1<30;decide) hpp ?_;refine smG fun P kP=>?_;refine xa3 (step h₁ (s.toks+3) fun _ _ q=>q) fun S1 E1 F1 _=>?_;refine xe2a3 (inst_at S1 (r0.up E1.up) e rfl) fun es ep _ J _ _=>?_;clear hns;refine xea U.par fun ar hp har=>?_;refine xe6a2 U.kcode fun ccl cdd vs ccs file tf hcode hvs hfile=>?_;refine xe3 U.kcell fun cl cld csl hcell=>?_;obtain⟨cdD,hD⟩:=Option.isSome_iff_exists.mp U.kD;have X1:B.K.In h₁:=S1.in_;obtain⟨oD,hD1,hD2⟩:∃oD,h₁.get? D=some oD/\oD.data=.cls cdD:=by
    exact cls_of X1 hD
  have ekind:∀x,env.kindOf x=fd.scope.names.lookup x:=fun x=>by show env.scope.names.lookup x=_;rw[esc]
  refine kP ?_;clear kP;refine ks_wpAt_super_base (env:=env) ((ekind _).trans U.ks) ((ekind _).trans U.kc) (by decide) (by rw[<-hE];rfl) (S1.keep _ _ ho) hd hp (by rw[<-hE];exact U.ecda) (X1 _ _ hcode) rfl hvs hfile U.top ?_;have T1:=B.T.keeps (h':=h₁) S1.keep;refine ks_loadName_global (esc▸kind) ((ekind _).trans U.ks) (PySem.Calls.loadGlobal_builtin (env:=env) (by rw[C.glob];exact T1.g) U.mgs (by rw[C.blt];exact T1.b) ((T1.builtins _ (by decide+kernel)).trans U.boot) ⟨rfl,?_⟩);refine wpAny_loadName_free (esc▸kind) ((ekind _).trans U.kc) (by rw[ecl];rfl) ⟨_,X1 _ _ hcell,rfl⟩ ?_;refine wpAny_loadName_local (esc▸kind) ((ekind _).trans (har▸U.loc _ (by rw[hnm];simp))) F1.ns (by rw[har];rfl) ?_;refine ks_wpAny_isType_cls hD1 hD2 ⟨rfl,?_⟩;refine ks_wpAny_call_super hD1 hD2 J.at_ J.cls (fun c e=>?_) (looks_mroIn X1 U.sub) (fun h2 e2 k2=>?_)
  .have :=J.no;unfold notCls at this;rw[e]at this;exact Bool.noConfusion this
  intro pl;refine smG fun P kP=>?_;refine xa3 (step h2 (s.toks+3) k2) fun S2 E2 F2 _=>?_;have X2:B.K.In h2:=S2.in_;obtain⟨cd,hc⟩:∃cd,clsIn B.K (B.ca .search)=some cd:=by
    have :=U.meth;unfold ks_superIn at this;cases q:clsIn B.K (B.ca .search)with|none=>rw[q]at this;cases this|some cd=>exact⟨cd,rfl⟩
  obtain⟨of,hof,hofc⟩:∃of,h2.get? (B.fa .t_init)=some of/\of.cls=.type "function":=by
    have ht':(B.K.lookup (B.fa .t_init)).map (·.cls)=some (.type "function"):=U.methT;cases z:B.K.lookup (B.fa .t_init)with|none=>rw[z]at ht';cases ht'|some of=>rw[z]at ht';exact⟨of,X2 _ _ z,zS ht'⟩
  have hm:=U.meth;unfold ks_superIn at hm;rw[hc]at hm;refine kP ?_;clear kP;refine ks_wpAny_getMethod_super e2 (looks_opaque X2 U.tp) (l₀:=cd.mro) ?_ rfl X2 hm hof hofc (ks_ne X1 J hc) (by decide) ?_;.exact fun A Q E s k q=>zC ((looks_clsIn X2 hc) A _ E s k (zR q))
  have k3:∀b o,h₁.get? b=some o->(h2.push {cls:=.type "method",data:=.fields #[.ref (B.fa .t_init),.ref (I t n).id]}).get? b=some o:=fun b o q=>Heap.get?_push_of_some _ (k2 _ _ q);refine xa3 (step _ (s.toks+3+1) k3) fun S3 E3 F3 L3=>?_;have hq3:(h2.push {cls:=.type "method",data:=.fields #[.ref (B.fa .t_init),.ref (I t n).id]}).get? h2.objs.size=some (methodObj (.ref (B.fa .t_init)) (.ref (I t n).id)):=Heap.get?_push_at rfl rfl;refine callWith_of (P:=MethP B.K h2.objs.size (B.fa .t_init) (.ref (I t n).id)) (by rw[plain_args (fun e he=>zD.mp he▸rfl)];rfl) (keeps_M U.fnIn) (evalArgs_xs (fun e he=>zD.mp he▸rfl) ?_);refine wpAny_items_cons (wpAny_Name (wpAny_loadName_local (esc▸kind) ((ekind _).trans (U.loc _ (by rw[hnm];simp))) F3.ns (v:=v2) rfl ?_) (by decide)) (tame_star rfl);refine wpAny_items_nil ⟨⟨hq3,S3.in_⟩,?_⟩;refine wpAny_call (ks_codeAny_call_bound hq3 ?_);refine codeAny_mono (h (A.deeper env) _ I [.ref (I t n).id,v2] C.rm S3 (.cons (r0.up E3.up) (.cons (r2.up E3.up) .nil))) ?_;clear U;intro r s4 q_r;refine xe4a4 q_r fun v x S4 I4 e_4 q hS4 hE4 _=>?_;subst e_4;have L4:=L3.ext S3 hE4 fun _ _ z=>z;refine _root_.PySem.wpAt_of_wpAny ?_;refine xea chk fun rp est hck=>?_;clear chk;subst est;refine zB (sndSs G body _ _ _ _ _ C (ncOk_inj inj) (esc▸hck) _ _ _ q _ _ hS4 L4) ?_ fun _ _ z=>z.elim;intro fl s5 q_r;obtain⟨fl',μ',S5,I5,q,hS5,hE5,L5,hf⟩:=q_r;have nW:∀a o,s.heap.get? a=some o->¬Wf env a:=fun a o ha h=>by
    have hlt:=Heap.lt_size ha;rcases h with h|⟨n,hx,h⟩;.rw[h,eloc]at hlt;exact absurd hlt (Nat.lt_irrefl _)
    .rw[ecl,yK]at h;rw[show((n==("__class__":Str))=false)from zQ.mpr hx]at h;cases h
  have E6:Ext (fun _=>False) s S I s5 S5 I5:=(((E3.trans hE4).weaken fun a z=>z.elim).trans hE5).weaken fun a z=>by
    cases q:s.heap.get? a with|none=>exact .inr rfl|some o=>exact(nW a o q z).elim
  exact⟨q,hS5,E6,hf⟩
end
section
open PySem PySem.W PySem.Calls PyProof.Rows
variable{B:Base}{nc:NC}{d:Nat}{S:AS}{Q:VQ}{I:Interp}{h h0:Heap}{a:Stmt}{f:Fn}{fd:FuncData}{o:Option Obj}{n:Nat}{body:Sts}{stmts:List Stmt}{α:Type}{K:Frag}{names:List Str}{v:Option Value}
noncomputable abbrev pw:=PySem.Challenge.pw_qz0040_02
noncomputable def stAt(i:Nat):Stmt:=pw.main.body.getD i (.Pass default)
noncomputable def clsBody:Stmt->List Stmt|.ClassDef _ _ _ b ..=>b|_=>[]
noncomputable def stIn(i j:Nat):Stmt:=(clsBody (stAt i)).getD j (.Pass default)
noncomputable def fBody:Stmt->List Stmt|.FunctionDef _ _ b ..=>b|_=>[]
noncomputable def fParams:Stmt->Arguments|.FunctionDef _ p ..=>p|_=>default
noncomputable def fScope:Stmt->Scope|.FunctionDef (scope:=s) ..=>s|_=>default
noncomputable def allFn:List Fn:=[.place_of,.order_key,.clause_of,.is_always_true,.order_of,.tidy,.is_tidy,.resolve_on,.draw,.lclause,.world,.lcore,.taken,.rested,.column,.follows,.right,.h_init,.h_many,.h_held,.h_before,.h_grow,.h_put,.h_rise,.h_push,.t_init,.t_grow,.t_value,.t_depth,.t_store,.t_watch,.t_height,.t_byh,.t_place,.t_enq,.t_newlev,.t_cancel,.t_prop,.t_visit,.t_moved,.s_init,.s_newvar,.s_add,.s_log,.s_unit,.s_prop,.p_init,.p_size,.p_clause,.p_add,.p_chain]
theorem allFn_mem(f:Fn):f∈allFn:=by cases f<;>decide
noncomputable def faA:Fn->Addr|.place_of=>212|.order_key=>219|.clause_of=>226|.is_always_true=>233|.order_of=>573|.tidy=>580|.is_tidy=>587|.resolve_on=>592|.draw=>724|.lclause=>729|.world=>734|.lcore=>741|.taken=>748|.rested=>755|.column=>762|.follows=>769|.right=>776|.h_init=>93|.h_many=>100|.h_held=>107|.h_before=>114|.h_grow=>121|.h_put=>128|.h_rise=>135|.h_push=>156|.t_init=>247|.t_grow=>254|.t_value=>268|.t_depth=>275|.t_store=>296|.t_watch=>303|.t_height=>317|.t_byh=>324|.t_place=>338|.t_enq=>345|.t_newlev=>352|.t_cancel=>359|.t_prop=>366|.t_visit=>373|.t_moved=>380|.s_init=>410|.s_newvar=>417|.s_add=>424|.s_log=>452|.s_unit=>464|.s_prop=>476|.p_init=>606|.p_size=>634|.p_clause=>641|.p_add=>655|.p_chain=>660
noncomputable def astOf:Fn->Stmt|.place_of=>stAt 11|.order_key=>stAt 12|.clause_of=>stAt 13|.is_always_true=>stAt 14|.order_of=>stAt 20|.tidy=>stAt 21|.is_tidy=>stAt 22|.resolve_on=>stAt 23|.draw=>stAt 27|.lclause=>stAt 28|.world=>stAt 29|.lcore=>stAt 30|.taken=>stAt 31|.rested=>stAt 32|.column=>stAt 33|.follows=>stAt 34|.right=>stAt 35|.h_init=>stIn 6 0|.h_many=>stIn 6 1|.h_held=>stIn 6 2|.h_before=>stIn 6 3|.h_grow=>stIn 6 4|.h_put=>stIn 6 5|.h_rise=>stIn 6 6|.h_push=>stIn 6 9|.t_init=>stIn 15 0|.t_grow=>stIn 15 1|.t_value=>stIn 15 3|.t_depth=>stIn 15 4|.t_store=>stIn 15 7|.t_watch=>stIn 15 8|.t_height=>stIn 15 10|.t_byh=>stIn 15 11|.t_place=>stIn 15 13|.t_enq=>stIn 15 14|.t_newlev=>stIn 15 15|.t_cancel=>stIn 15 16|.t_prop=>stIn 15 17|.t_visit=>stIn 15 18|.t_moved=>stIn 15 19|.s_init=>stIn 17 0|.s_newvar=>stIn 17 1|.s_add=>stIn 17 2|.s_log=>stIn 17 6|.s_unit=>stIn 17 8|.s_prop=>stIn 17 10|.p_init=>stIn 24 0|.p_size=>stIn 24 4|.p_clause=>stIn 24 5|.p_add=>stIn 24 7|.p_chain=>stIn 24 8
noncomputable def asL:List Addr:=[2,3,86,92,93,99,100,106,107,113,114,120,121,127,128,134,135,155,156,200,201,211,212,218,219,225,226,232,233,246,247,253,254,267,268,274,275,295,296,302,303,316,317,323,324,337,338,344,345,351,352,358,359,365,366,372,373,379,380,389,390,398,409,410,416,417,423,424,451,452,463,464,475,476,562,563,572,573,579,580,586,587,591,592,605,606,633,634,640,641,654,655,659,660,662,663,714,715,723,724,728,729,733,734,740,741,747,748,754,755,761,762,768,769,775,776,780,781]
noncomputable def caA:Cls->Addr|.heap=>201|.search=>563|.proof=>715
noncomputable def allCls:List Cls:=[.heap,.search,.proof]
theorem allCls_mem(c:Cls):c∈allCls:=by cases c<;>decide
noncomputable def frg(h:Heap):Frag:=asL.filterMap fun a=>(h.get? a).map fun o=>(a,o)
theorem frg_in(h:Heap):(frg h).In h:=by
 intro a o e;unfold frg at e;have :∀l:List Addr,(l.filterMap fun a=>(h.get? a).map fun o=>(a,o)).lookup a=some o->h.get? a=some o:=by
  intro l;induction l with|nil=>intro e;cases e|cons b r ih=>
   intro e;rw[List.filterMap_cons]at e;cases hb:h.get? b with|none=>rw[hb]at e;exact ih e|some ob=>
    rw[hb]at e;simp only[Option.map_some,yK]at e;by_cases q:a=b
    .subst q;rw[beq_self_eq_true]at e;exact hb.trans e
    .rw[zQ.mpr q]at e;exact ih e
 exact this _ e
noncomputable def fdO:Option Obj->FuncData|some ⟨_,_,.func d,_⟩=>d|_=>default
noncomputable def fdAt(h:Heap)(a:Addr):FuncData:=fdO (h.get? a)
noncomputable def fdView(d:FuncData):=(d.params,d.body,d.scope,d.globals,d.builtins,d.closure,d.defaults,d.kwdefaults)
noncomputable def cloOf(f:Fn):List (Str×Addr):=if f=.s_init then[("__class__",398)]else[]
noncomputable def dfOf(f:Fn):Value:=if f=.h_init then .ref 86 else .none
noncomputable def fdWant(f:Fn):=(fParams (astOf f),FuncBody.stmts (fBody (astOf f)),fScope (astOf f),mainGlobals,builtinsNs,cloOf f,dfOf f,Value.none)
noncomputable def okC(K:Frag)(c:Cls):Bool:=[hasDictIn K (caA c),findIn K (.ref (caA c)) "__setattr__"==some (some (.builtin "object.__setattr__")),plainOver K (caA c),makesIn K (caA c),keepIn K (.ref (caA c)),findIn K (.ref (caA c)) "__init__"==some (some (.ref (faA (initOf c)))),typeIn K (.ref (faA (initOf c)))==some (.type "function"),plainGet K (caA c) "",allAt.all (fun a=>(!okAt c a||findIn K (.ref (caA c)) a.nm==some none)&&takerIn K (caA c) a.nm==some none),allFn.all fun f=>!methOf c f||findIn K (.ref (caA c)) f.nm==some (some (.ref (faA f)))].all id
noncomputable def okF(K:Frag)(h:Heap)(f:Fn):Bool:=[keepIn K (.ref (faA f)),isFn K (.ref (faA f)),specialIn K (.ref (faA f)) "__get__"==some (some (.builtin "function.__get__")),takesIn K (.ref (faA f))==some false,codeIn K (fdAt h (faA f)).code (fdAt h (faA f)).qualname,(!f.glob||h.nsMap mainGlobals f.nm==some (.ref (faA f)))].all id
noncomputable def isI(v:Option Value)(i:Int):Bool:=match v with|some (.int j _)=>decide (j=i)|_=>false
noncomputable def svIs(v:Value)(t:Str):Bool:=match v with|.str s _=>decide (s=t)|_=>false
noncomputable def strsAre:List Value->List Str->Bool|[],[]=>true|v::r,t::q=>svIs v t&&strsAre r q|_,_=>false
noncomputable def rules:List Str:=["input","define","ite_term","three","bits","congruence","farkas","branch","divide","cut","resolve"]
noncomputable def okR1:Option Obj->Bool|some ⟨.type t,none,.seq items 0,sl⟩=>t=="tuple"&&(sl.toList.isEmpty&&strsAre items.toList rules)|_=>false
noncomputable def refIn(f:Addr->Bool):Option Value->Bool|some (.ref a)=>f a|_=>false
noncomputable def okR(h:Heap):Bool:=refIn (fun a=>okR1 (h.get? a)) (h.nsMap mainGlobals "RULES")
noncomputable def okD1:Option Obj->Bool|some ⟨_,_,.seq items _,_⟩=>(match items.toList with|[v]=>isI (some v) 1000000000000|_=>false)|_=>false
noncomputable def okD(h:Heap):Bool:=okD1 (h.get? 86)
noncomputable def okS1:Option Obj->Bool|some ⟨_,_,.cell v,_⟩=>refIn (.==563) v|_=>false
noncomputable def okS3:List Value->Bool|_::_::v::_=>svIs v "/claim/cut.py"|_=>false
noncomputable def okS2:Option Obj->Bool|some ⟨_,_,.fields vs,_⟩=>okS3 vs.toList|_=>false
noncomputable def okS(K:Frag):Bool:=[ks_superIn K 563 563 "__init__"==some (some (.ref 247)),typeIn K (.ref 247)==some (.type "function"),mroIn K 563 (.ref 563)==some true,nsIn K mainGlobals "super"==some none,nsIn K cStatics "thirdparty.any"==some none,okS1 (K.lookup 398),okS2 (K.lookup 409),(clsIn K 563).isSome].all id
noncomputable def okB(h:Heap):Bool:=[h.isNs mainGlobals,(h.get? sysModules).isSome,allCls.all (fun c=>okC (frg h) c&&h.nsMap mainGlobals c.nm==some (.ref (caA c))),allFn.all (okF (frg h) h),glNames.all (fun x=>h.nsMap mainGlobals x==none),isI (h.nsMap mainGlobals "UNKNOWN") 0,isI (h.nsMap mainGlobals "TRUE") 1,isI (h.nsMap mainGlobals "FALSE") (-1),isI (h.nsMap mainGlobals "NO_CLAUSE") (-1),isI (h.nsMap mainGlobals "FIRST_STEP") 1024,okR h,okD h,okS (frg h),h.nsMap mainGlobals "law"==some (.ref 781),codeIn (frg h) (fdAt h 781).code (fdAt h 781).qualname,(fdAt h 410).code==.ref 409].all id
noncomputable def vw:Program:={pw with main:={pw.main with body:=[stAt 36]}}
noncomputable def loose1:List Str:=["_wall","SmtError","ProofFault","FIRST_STEP","CoreHeap","UNKNOWN","TRUE","FALSE","NO_CLAUSE","place_of","order_key","clause_of","is_always_true","Trail","Search","RULES","order_of","tidy","is_tidy","resolve_on","Steps","Proof","_law_draw","_law_clause","_law_world","_law_core","_law_taken","_law_rested","_law_column","_law_follows","_law_is_step_right"]
noncomputable def env0:Env:={scope:=pw.main.scope,locals:=mainNs,globals:=mainNs,cells:=[],code:=.ref 13,frame:=some 14}
noncomputable def body0:List Stmt:=behindTheImports pw
noncomputable def code0:Code:=.body body0 env0
noncomputable def p0:Pos:={line:=0,col:=0,endLine:=0,endCol:=0}
noncomputable def pE:Pos:={line:=582,col:=0,endLine:=608,endCol:=42}
noncomputable def B0:List Frame:=[topFrame p0]
noncomputable def ann0:Option Value:=some (.ref 6)
theorem leftO_of{p q:Program}{loose:List Str}{Xt:Shared->Bool}{Yf:Shared->α}{Ya:World->α}{N:Nat}{g0:Bool}{H₀:Params->Heap}{gs₀:Array GenState}{d₀:Drawn}{k₀:Nat}{m₀:Nat}{ann:Option Value}{M:Nat}(open_:∀w:World,(fencedOpening treeTable p w N).map (fun s=>(s.heap,s.gens,s.drawn,s.toks))=some (H₀ w.params,gs₀,d₀,k₀))(size:∀w:World,((H₀ w.params).isNs mainGlobals&&gs₀.size==0,(H₀ w.params).objs.size,(H₀ w.params).nsMap mainGlobals "__annotations__")=(true,m₀,ann))(le:Nat.ble M N=true)(run:∀(w:World)(os:OsState),∃R:Shared,topRun treeTable p w m₀ ann M ⟨H₀ w.params,gs₀,d₀,k₀,os⟩ (topStub p)=some R/\(staticsOk (importedModules p.main.body) (H₀ w.params) R.heap&&namesBound p R.heap&&gensDone R&&laidKept (H₀ w.params) R.heap)=true/\openSeen q loose (importedModules p.main.body) Xt g0 R=openGood q loose/\Yf R=Ya w):LeftO p q loose Xt Yf Ya N g0:=fun w=>by
 obtain⟨⟨h,gs,d,k,os⟩,e,e'⟩:=yX.mp (open_ w);obtain⟨rfl,rfl,rfl,rfl⟩:h=H₀ w.params/\gs=gs₀/\d=d₀/\k=k₀:=by simpa using e'
 obtain⟨z1,z2,z3⟩:_/\_/\_:=by simpa only[Prod.mk.injEq]using size w
 obtain⟨R,r,l1,l2,l3⟩:=run w os;have r:=topRun_mono (N-M) _ _ _ _ r;rw[show M+(N-M)=N by have :=nb le;exact lC 0x781802520040010808105040010202620041000 tT (le_sub_ad _ _) (yC (lB 0x7061000061000 tT this))]at r;have t:topFrom treeTable p w N ⟨H₀ w.params,gs,d,k,os⟩=some R:=by
  unfold topFrom;dsimp only;rw[z1,z2,z3,r];show(match staticsOk (importedModules p.main.body) (H₀ w.params) R.heap&&namesBound p R.heap&&gensDone R&&laidKept (H₀ w.params) R.heap with|true=>_|false=>_)=_;rw[l1]
 unfold openEnds;rw[e];show(topFrom treeTable p w N _).map _=_;rw[t];exact zG some (Prod.ext l2 l3)
noncomputable def Sa(w:World)(os:OsState):Shared:=match Fast.tw15667345088766844465 Fast.tw14364793385576792824 pw w 11 ann0 12 ⟨boot_heap w.params,Array.mk [],boot_drawn,boot_toks,os⟩ (topStub pw)with|some (s,_)=>s|none=>⟨boot_heap w.params,Array.mk [],boot_drawn,0,os⟩
noncomputable def ins1:List Obj->Nat->BT->BT|[],_,t=>t|o::r,i,t=>ins1 r (i+1) (t.ins i o)
noncomputable def SaT(w:World)(os:OsState):SharedT:=match Sa w os with|⟨⟨objs,life⟩,gens,drawn,toks,os⟩=>⟨ins1 objs.toList 0 .nil,objs.size,life,gens,drawn,toks,os⟩
theorem sa_run(w:World)(os:OsState):topGo treeTable pw w 11 ann0 12 ⟨boot_heap w.params,Array.mk [],boot_drawn,boot_toks,os⟩ (topStub pw)=some (Sa w os,⟨denote treeTable code0,code0,p0,B0⟩):=by
 rw[Fast.te15667345088766844465,Fast.te14364793385576792824,Fast.te11892475500146522536];kernel_rfl
theorem sa_tree(w:World)(os:OsState):(SaT w os).abs=Sa w os:=by kernel_rfl
theorem sa_block(w:World)(os:OsState):segRun treeTable pw w 11 ann0 1 1 (Sa w os) (blockOf body0 env0 code0 p0 B0)=some (.next,Sa w os,code0,p0):=by kernel_rfl
noncomputable def topT(w:World)(os:OsState):Option (Flow×SharedT×Code×Pos):=Fast.tw10110043849684766642 Fast.tw14364793385576792824 pw w 11 ann0 1 4738 (SaT w os) (piecesOf body0 env0 code0 p0 B0)
theorem topT_eq(w:World)(os:OsState):segRunT treeTable pw w 11 ann0 1 4738 (SaT w os) (piecesOf body0 env0 code0 p0 B0)=topT w os:=by
 rw[Fast.te10110043849684766642,Fast.te14364793385576792824];rfl
noncomputable def lookT(Xt:Shared->Bool)(Yf:Shared->α)(w:World)(r:Option (Flow×SharedT×Code×Pos)):=r.map fun x=>(x.1,x.2.2.1,x.2.2.2,staticsOk (importedModules pw.main.body) (boot_heap w.params) x.2.1.abs.heap&&namesBound pw x.2.1.abs.heap&&gensDone x.2.1.abs&&laidKept (boot_heap w.params) x.2.1.abs.heap,Fast.tw4187177175401517315 vw loose1 (importedModules pw.main.body) Xt true x.2.1.abs,Yf x.2.1.abs)
noncomputable def obs(h:Heap):=(allFn.map (fun f=>fdView (fdAt h (faA f))),fdView (fdAt h 781),okB h)
noncomputable def want:=(allFn.map fdWant,(fParams (stAt 36),FuncBody.stmts (fBody (stAt 36)),fScope (stAt 36),mainGlobals,builtinsNs,([]:List (Str×Addr)),Value.none,Value.none),true)
noncomputable def hk:Hook:=⟨_,fun s=>obs s.heap,fun _=>want,fun _ h=>∃h0:Heap,(∀b(o:Obj),h0.get? b=some o->h.get? b=some o)/\obs h0=want,fun _ s e=>⟨s.heap,fun _ _ q=>q,e⟩,fun _ h h'⟨h0,k,e⟩k'=>⟨h0,fun b o q=>k' _ _ (k _ _ q),e⟩⟩
theorem lookT_eq:∀w os,lookT (fun s=>xlAt vw [] s&&recOk [] s) hk.obs w (topT w os)=some (Flow.next,code0,pE,true,openGood vw loose1,hk.val w):=by
 intro w os;kernel_rfl
noncomputable abbrev rw0:=PySem.Challenge.rw_qz0040_02
noncomputable abbrev Xt0:Shared->Bool:=fun s=>xlAt vw [] s&&recOk (RowW.records (OpenRow.toRowW rw0.row)) s
theorem open0:opening pw=plainProg pw.main.scope.names:=by rfl
theorem fence0(s:Shared):fenceModules? pw s=some s:=by rfl
theorem size0(w:World):((boot_heap w.params).isNs mainGlobals&&(Array.mk []:Array GenState).size==0,(boot_heap w.params).objs.size,(boot_heap w.params).nsMap mainGlobals "__annotations__")=(true,11,ann0):=by kernel_rfl
theorem head_left:LeftO pw vw loose1 Xt0 hk.obs hk.val 9574 true:=by
  refine leftO_of (H₀:=boot_heap) (gs₀:=Array.mk []) (d₀:=boot_drawn) (k₀:=boot_toks) (m₀:=11) (ann:=ann0) (M:=12+(1+(4738+2))) (boot_open open0 (by decide) fence0) size0 (by decide) fun w os=>?_;obtain⟨⟨f,s,c,p⟩,hr,he⟩:=yX.mp (lookT_eq w os);simp only[Prod.mk.injEq]at he;obtain⟨rfl,rfl,rfl,e1,e2,e3⟩:=he;refine⟨s.abs,?_,e1,?_,e3⟩
  . refine go_top (sa_run w os) ?_;refine piece_block (sa_block w os) ?_;have h:=topT_eq w os;rw[hr]at h;have h2:=segRun_of h;rw[sa_tree]at h2;have h3:topRun treeTable pw w 11 ann0 2 s.abs (restOf [] env0 code0 pE [topFrame p0])=some s.abs:=by clear hr e1 e2 e3;obtain⟨T,n,l,g,d,t,o⟩:=s;rfl
    have :=piece_app (l:=body0) (rest:=[]) (env:=env0) (c:=code0) h2 h3;rw[yS]at this;exact this
  .rw[<-Fast.te4187177175401517315]at e2;exact e2
noncomputable def dk0:DefRec×List (Str×Expr):=(defOf vw "law").get (by decide+kernel)
set_option maxHeartbeats 4000000 in theorem law_of_walk(walk:WalkO vw loose1 (XL vw []) hk.says (OpenRow.toRowW rw0.row) dk0.1 dk0.2 fun f vs=>PySem.call f vs):PySem.Challenge.rw_qz0040_02.Holds:=by
 w_on;refine holds_law (by decide+kernel) fun said=>?_;refine holds_open (q:=vw) (loose:=loose1) (Xt:=Xt0) (XP:=XL vw []) (Yf:=hk.obs) (Ya:=hk.val) (YP:=hk.says) (N:=9574) head_left hk.of hk.keeps (fun s e=>xl_of s (Bool.and_eq_true_iff.mp e).1) XL.keeps (by rfl) (by rfl) (by rfl) (fun s e=>recFacts_of (Bool.and_eq_true_iff.mp e).2) (by rfl) (by first|assumption|decide+kernel) (by decide+kernel) ⟨rfl,rfl,rfl,rfl,rfl,by decide+kernel⟩ ?hw walk;w_witness2
noncomputable def nc_place_of:NC:=[("lit",0)]
noncomputable def body_place_of:Sts:=(.cons (.ret (.ite (.cmp .gt (.lc 0) (.int 0)) (.bin .mul (.int 2) (.lc 0)) (.bin .sub (.int 1) (.bin .mul (.int 2) (.lc 0))))) .nil)
noncomputable def nc_order_key:NC:=[("lit",0)]
noncomputable def body_order_key:Sts:=(.cons (.ret (.tup (.cons (.abs (.lc 0)) (.cons (.lc 0) .nil)))) .nil)
noncomputable def nc_clause_of:NC:=[("lits",0),("found",1),("lit",2)]
noncomputable def body_clause_of:Sts:=(.cons (.asg (.nm 1) (.lst .nil)) (.cons (.for_ [2] (.of (.sorted (.lc 0) (.fn .order_key))) (.cons (.ifs (.or (.cmp .eq (.lc 1) (.lst .nil)) (.cmp .ne (.sub (.lc 1) (.neg (.int 1))) (.lc 2))) (.cons (.ex (.app (.lc 1) (.lc 2))) .nil) .nil) .nil)) (.cons (.ret (.toTuple (.lc 1))) .nil)))
noncomputable def nc_is_always_true:NC:=[("clause",0),("k",1)]
noncomputable def body_is_always_true:Sts:=(.cons (.for_ [1] (.rng (.int 1) (.len (.lc 0)) (.int 1) 2) (.cons (.ifs (.cmp .eq (.sub (.lc 0) (.lc 1)) (.neg (.sub (.lc 0) (.bin .sub (.lc 1) (.int 1))))) (.cons (.ret .tru) .nil) .nil) .nil)) (.cons (.ret .fls) .nil))
noncomputable def nc_order_of:NC:=[("literal",0)]
noncomputable def body_order_of:Sts:=(.cons (.ret (.tup (.cons (.abs (.lc 0)) (.cons (.cmp .gt (.lc 0) (.int 0)) .nil)))) .nil)
noncomputable def nc_tidy:NC:=[("literals",0),("kept",1),("literal",2)]
noncomputable def body_tidy:Sts:=(.cons (.asg (.nm 1) .dict0) (.cons (.for_ [2] (.of (.lc 0)) (.cons (.ifs (.cmp .in_ (.neg (.lc 2)) (.lc 1)) (.cons (.ret .none) .nil) .nil) (.cons (.asg (.sub (.lc 1) (.lc 2)) .tru) .nil))) (.cons (.ret (.toTuple (.sorted (.lc 1) (.fn .order_of)))) .nil)))
noncomputable def nc_is_tidy:NC:=[("clause",0),("place",1)]
noncomputable def body_is_tidy:Sts:=(.cons (.for_ [1] (.rng (.int 0) (.len (.lc 0)) (.int 1) 1) (.cons (.ifs (.cmp .eq (.sub (.lc 0) (.lc 1)) (.int 0)) (.cons (.ret .fls) .nil) .nil) (.cons (.ifs (.and (.cmp .gt (.lc 1) (.int 0)) (.cmp .ge (.abs (.sub (.lc 0) (.bin .sub (.lc 1) (.int 1)))) (.abs (.sub (.lc 0) (.lc 1))))) (.cons (.ret .fls) .nil) .nil) .nil))) (.cons (.ret .tru) .nil))
noncomputable def nc_resolve_on:NC:=[("one",0),("other",1),("variable",2),("rest",3)]
noncomputable def body_resolve_on:Sts:=(.cons (.ifs (.and (.cmp .in_ (.lc 2) (.lc 0)) (.cmp .in_ (.neg (.lc 2)) (.lc 1))) (.cons (.asg (.nm 3) (.comp (.lc 4) [4] (.of (.lc 0)) (.cons (.cmp .ne (.lc 4) (.lc 2)) .nil) [("variable",2),("literal",4)])) (.cons (.ex (.ext (.lc 3) (.comp (.lc 5) [5] (.of (.lc 1)) (.cons (.cmp .ne (.lc 5) (.neg (.lc 2))) .nil) [("variable",2),("literal",5)]))) .nil)) (.cons (.ifs (.and (.cmp .in_ (.neg (.lc 2)) (.lc 0)) (.cmp .in_ (.lc 2) (.lc 1))) (.cons (.asg (.nm 3) (.comp (.lc 6) [6] (.of (.lc 0)) (.cons (.cmp .ne (.lc 6) (.neg (.lc 2))) .nil) [("variable",2),("literal",6)])) (.cons (.ex (.ext (.lc 3) (.comp (.lc 7) [7] (.of (.lc 1)) (.cons (.cmp .ne (.lc 7) (.lc 2)) .nil) [("variable",2),("literal",7)]))) .nil)) (.cons .boom .nil)) .nil)) (.cons (.ret (.call .tidy (.cons (.lc 3) .nil))) .nil))
noncomputable def nc_draw:NC:=[("feed",0),("wide",1),("k",2)]
noncomputable def body_draw:Sts:=(.cons (.asg (.nm 2) (.sub (.lc 0) (.str "at"))) (.cons (.asg (.sub (.lc 0) (.str "at")) (.bin .add (.lc 2) (.int 1))) (.cons (.ifs (.cmp .lt (.lc 2) (.len (.sub (.lc 0) (.str "cells")))) (.cons (.ret (.bin .mod (.sub (.sub (.lc 0) (.str "cells")) (.lc 2)) (.lc 1))) .nil) .nil) (.cons (.ret (.bin .mod (.bin .mod (.bin .add (.bin .add (.bin .add (.bin .mul (.bin .mul (.int 5) (.lc 2)) (.lc 2)) (.bin .mul (.int 11) (.lc 2))) (.bin .mul (.int 3) (.len (.sub (.lc 0) (.str "cells"))))) (.int 2)) (.int 83)) (.lc 1))) .nil))))
noncomputable def nc_lclause:NC:=[("lits",0)]
noncomputable def body_lclause:Sts:=(.cons (.ret (.toTuple (.comp2 (.lc 2) 1 (.rng (.int 1) (.int 8) (.int 1) 2) 2 (.tup (.cons (.neg (.lc 1)) (.cons (.lc 1) .nil))) (.cons (.cmp .in_ (.lc 2) (.lc 0)) .nil) [("lits",0),("v",1),("lit",2)]))) .nil)
noncomputable def nc_world:NC:=[("feed",0),("truths",1),("clauses",2),("k",3),("lit",4),("elder",5),("lap",6),("late",7),("turn",8)]
noncomputable def body_world:Sts:=(.cons (.asg (.nm 1) (.comp (.ite (.cmp .eq (.call .draw (.cons (.lc 0) (.cons (.int 2) .nil))) (.int 0)) (.lc 9) (.neg (.lc 9))) [9] (.rng (.int 1) (.bin .add (.int 4) (.call .draw (.cons (.lc 0) (.cons (.int 3) .nil)))) (.int 1) 2) .nil [("feed",0),("v",9)])) (.cons (.asg (.nm 2) (.lst .nil)) (.cons (.for_ [3,4] (.enum (.lc 1)) (.cons (.asg (.nm 5) (.comp (.neg (.sub (.lc 1) (.call .draw (.cons (.lc 0) (.cons (.lc 3) .nil))))) [10] (.rng (.int 0) (.ite (.cmp .gt (.lc 3) (.int 0)) (.call .draw (.cons (.lc 0) (.cons (.int 3) .nil))) (.int 0)) (.int 1) 1) .nil [("feed",0),("truths",1),("k",3),("lap",10)])) (.cons (.ex (.app (.lc 2) (.call .lclause (.cons (.bin .add (.lst (.cons (.lc 4) .nil)) (.lc 5)) .nil)))) .nil))) (.cons (.for_ [6] (.rng (.int 0) (.call .draw (.cons (.lc 0) (.cons (.int 3) .nil))) (.int 1) 1) (.cons (.asg (.nms [4,7]) (.tup (.cons (.sub (.lc 1) (.call .draw (.cons (.lc 0) (.cons (.len (.lc 1)) .nil)))) (.cons (.bin .add (.int 1) (.call .draw (.cons (.lc 0) (.cons (.bin .add (.len (.lc 1)) (.int 1)) .nil)))) .nil)))) (.cons (.ex (.app (.lc 2) (.call .lclause (.cons (.lst (.cons (.lc 4) (.cons (.ite (.cmp .ne (.neg (.lc 7)) (.lc 4)) (.lc 7) (.lc 4)) .nil))) .nil)))) .nil))) (.cons (.asg (.nm 8) (.call .draw (.cons (.lc 0) (.cons (.len (.lc 2)) .nil)))) (.cons (.asg (.nm 2) (.bin .add (.sliceFrom (.lc 2) (.lc 8)) (.sliceTo (.lc 2) (.lc 8)))) (.cons (.ret (.tup (.cons (.lc 1) (.cons (.ite (.cmp .eq (.call .draw (.cons (.lc 0) (.cons (.int 2) .nil))) (.int 1)) (.rev (.lc 2)) (.lc 2)) .nil)))) .nil)))))))
noncomputable def nc_lcore:NC:=[("many",0),("core",1),("v",2)]
noncomputable def body_lcore:Sts:=(.cons (.asg (.nm 1) (.new .search (.cons (.new .proof .nil) (.cons .none .nil)))) (.cons (.for_ [2] (.rng (.int 0) (.lc 0) (.int 1) 1) (.cons (.ex (.meth (.lc 1) .s_newvar .nil)) .nil)) (.cons (.ret (.lc 1)) .nil)))
noncomputable def nc_taken:NC:=[("core",0),("lot",1),("clause",2)]
noncomputable def body_taken:Sts:=(.cons (.ex (.meth (.lc 0) .t_cancel (.cons (.int 0) .nil))) (.cons (.for_ [2] (.of (.lc 1)) (.cons (.ifs (.not (.meth (.lc 0) .s_add (.cons (.lc 2) (.cons (.meth (.at (.lc 0) .proof) .p_add (.cons (.str "input") (.cons (.lc 2) (.cons (.tup .nil) (.cons (.meth (.at (.lc 0) .proof) .p_size .nil) .nil))))) .nil)))) (.cons (.ret .fls) .nil) .nil) .nil)) (.cons (.ret (.cmp .eq (.meth (.lc 0) .s_prop .nil) (.neg (.int 1)))) .nil)))
noncomputable def nc_rested:NC:=[("proof",0),("step",1),("found",2),("left",3),("rule",4),("clause",5),("premises",6),("note",7)]
noncomputable def body_rested:Sts:=(.cons (.asg (.nms [2,3]) (.tup (.cons .dict0 (.cons (.lst (.cons (.lc 1) .nil)) .nil)))) (.cons (.whl (.cmp .ne (.lc 3) (.lst .nil)) (.cons (.asg (.nms [4,5,6,7]) (.sub (.at (.lc 0) .steps) (.pop (.lc 3)))) (.cons (.ifs (.cmp .eq (.lc 4) (.str "input")) (.cons (.asg (.sub (.lc 2) (.lc 5)) .tru) .nil) .nil) (.cons (.asg (.nm 3) (.bin .add (.lc 3) (.toList (.lc 6)))) .nil)))) (.cons (.ret (.toList (.lc 2))) .nil)))
noncomputable def nc_column:NC:=[("lit",0),("many",1),("full",2),("low",3)]
noncomputable def body_column:Sts:=(.cons (.asg (.nm 2) (.bin .sub (.bin .pow (.int 2) (.bin .pow (.int 2) (.lc 1))) (.int 1))) (.cons (.asg (.nm 3) (.bin .fdiv (.lc 2) (.bin .add (.bin .pow (.int 2) (.bin .pow (.int 2) (.bin .sub (.abs (.lc 0)) (.int 1)))) (.int 1)))) (.cons (.ret (.ite (.cmp .lt (.lc 0) (.int 0)) (.lc 3) (.bin .sub (.lc 2) (.lc 3)))) .nil)))
noncomputable def nc_follows:NC:=[("clauses",0),("lit",1),("many",2),("left",3),("clause",4),("kept",5),("one",6)]
noncomputable def body_follows:Sts:=(.cons (.asg (.nm 3) (.bin .sub (.bin .pow (.int 2) (.bin .pow (.int 2) (.lc 2))) (.int 1))) (.cons (.for_ [4] (.of (.lc 0)) (.cons (.asg (.nm 5) (.int 0)) (.cons (.for_ [6] (.of (.lc 4)) (.cons (.asg (.nm 5) (.bin .bor (.lc 5) (.call .column (.cons (.lc 6) (.cons (.lc 2) .nil))))) .nil)) (.cons (.asg (.nm 3) (.bin .band (.lc 3) (.lc 5))) .nil)))) (.cons (.ret (.cmp .eq (.bin .band (.lc 3) (.call .column (.cons (.neg (.lc 1)) (.cons (.lc 2) .nil)))) (.int 0))) .nil)))
noncomputable def nc_right:NC:=[("core",0),("lit",1),("many",2),("told",3),("step",4),("size",5)]
noncomputable def body_right:Sts:=(.cons (.asg (.nm 4) (.meth (.lc 0) .s_unit (.cons (.abs (.lc 1)) .nil))) (.cons (.asg (.nm 5) (.meth (.at (.lc 0) .proof) .p_size .nil)) (.cons (.ifs (.or3 (.cmp .ne (.meth (.lc 0) .s_unit (.cons (.abs (.lc 1)) .nil)) (.lc 4)) (.cmp .ne (.meth (.at (.lc 0) .proof) .p_size .nil) (.lc 5)) (.cmp .ne (.setdef (.lc 3) (.lc 1) (.lc 4)) (.lc 4))) (.cons (.ret .fls) .nil) .nil) (.cons (.ret (.and (.cmp .eq (.meth (.at (.lc 0) .proof) .p_clause (.cons (.lc 4) .nil)) (.tup (.cons (.lc 1) .nil))) (.call .follows (.cons (.call .rested (.cons (.at (.lc 0) .proof) (.cons (.lc 4) .nil))) (.cons (.lc 1) (.cons (.lc 2) .nil)))))) .nil))))
noncomputable def nc_h_init:NC:=[("self",0),("limit",1)]
noncomputable def body_h_init:Sts:=(.cons (.asg (.at (.lc 0) .limit) (.lc 1)) (.cons (.asg (.at (.lc 0) .step) (.gl "FIRST_STEP")) (.cons (.asg (.at (.lc 0) .activity) (.lst (.cons (.int 0) .nil))) (.cons (.asg (.at (.lc 0) .heap) (.lst .nil)) (.cons (.asg (.at (.lc 0) .place) (.lst (.cons (.neg (.int 1)) .nil))) .nil)))))
noncomputable def nc_h_many:NC:=[("self",0)]
noncomputable def body_h_many:Sts:=(.cons (.ret (.bin .sub (.len (.at (.lc 0) .activity)) (.int 1))) .nil)
noncomputable def nc_h_held:NC:=[("self",0),("var",1)]
noncomputable def body_h_held:Sts:=(.cons (.ret (.cmp .ge (.sub (.at (.lc 0) .place) (.lc 1)) (.int 0))) .nil)
noncomputable def nc_h_before:NC:=[("self",0),("one",1),("other",2)]
noncomputable def body_h_before:Sts:=(.cons (.ifs (.cmp .ne (.sub (.at (.lc 0) .activity) (.lc 1)) (.sub (.at (.lc 0) .activity) (.lc 2))) (.cons (.ret (.cmp .gt (.sub (.at (.lc 0) .activity) (.lc 1)) (.sub (.at (.lc 0) .activity) (.lc 2)))) .nil) .nil) (.cons (.ret (.cmp .lt (.lc 1) (.lc 2))) .nil))
noncomputable def nc_h_grow:NC:=[("self",0),("n",1)]
noncomputable def body_h_grow:Sts:=(.cons (.whl (.cmp .lt (.meth (.lc 0) .h_many .nil) (.lc 1)) (.cons (.ex (.app (.at (.lc 0) .activity) (.int 0))) (.cons (.ex (.app (.at (.lc 0) .place) (.neg (.int 1)))) (.cons (.ex (.meth (.lc 0) .h_push (.cons (.meth (.lc 0) .h_many .nil) .nil))) .nil)))) .nil)
noncomputable def nc_h_put:NC:=[("self",0),("spot",1),("var",2)]
noncomputable def body_h_put:Sts:=(.cons (.asg (.sub (.at (.lc 0) .heap) (.lc 1)) (.lc 2)) (.cons (.asg (.sub (.at (.lc 0) .place) (.lc 2)) (.lc 1)) .nil))
noncomputable def nc_h_rise:NC:=[("self",0),("spot",1),("var",2),("above",3)]
noncomputable def body_h_rise:Sts:=(.cons (.asg (.nm 2) (.sub (.at (.lc 0) .heap) (.lc 1))) (.cons (.whl (.cmp .gt (.lc 1) (.int 0)) (.cons (.asg (.nm 3) (.bin .fdiv (.bin .sub (.lc 1) (.int 1)) (.int 2))) (.cons (.ifs (.not (.meth (.lc 0) .h_before (.cons (.lc 2) (.cons (.sub (.at (.lc 0) .heap) (.lc 3)) .nil)))) (.cons .brk .nil) .nil) (.cons (.ex (.meth (.lc 0) .h_put (.cons (.lc 1) (.cons (.sub (.at (.lc 0) .heap) (.lc 3)) .nil)))) (.cons (.asg (.nm 1) (.lc 3)) .nil))))) (.cons (.ex (.meth (.lc 0) .h_put (.cons (.lc 1) (.cons (.lc 2) .nil)))) .nil)))
noncomputable def nc_h_push:NC:=[("self",0),("var",1)]
noncomputable def body_h_push:Sts:=(.cons (.ifs (.meth (.lc 0) .h_held (.cons (.lc 1) .nil)) (.cons .ret0 .nil) .nil) (.cons (.ex (.app (.at (.lc 0) .heap) (.lc 1))) (.cons (.asg (.sub (.at (.lc 0) .place) (.lc 1)) (.bin .sub (.len (.at (.lc 0) .heap)) (.int 1))) (.cons (.ex (.meth (.lc 0) .h_rise (.cons (.bin .sub (.len (.at (.lc 0) .heap)) (.int 1)) .nil))) .nil))))
noncomputable def nc_t_init:NC:=[("self",0),("hook",1)]
noncomputable def body_t_init:Sts:=(.cons (.asg (.at (.lc 0) .hook) (.lc 1)) (.cons (.asg (.at (.lc 0) .assigns) (.lst (.cons (.gl "UNKNOWN") .nil))) (.cons (.asg (.at (.lc 0) .levels) (.lst (.cons (.int 0) .nil))) (.cons (.asg (.at (.lc 0) .reasons) (.lst (.cons (.gl "NO_CLAUSE") .nil))) (.cons (.asg (.at (.lc 0) .spots) (.lst (.cons (.int 0) .nil))) (.cons (.asg (.at (.lc 0) .phases) (.lst (.cons (.gl "FALSE") .nil))) (.cons (.asg (.at (.lc 0) .watches) (.lst (.cons (.lst .nil) (.cons (.lst .nil) .nil)))) (.cons (.asg (.at (.lc 0) .heap) (.new .heap .nil)) (.cons (.asg (.at (.lc 0) .trail) (.lst .nil)) (.cons (.asg (.at (.lc 0) .starts) (.lst .nil)) (.cons (.asg (.at (.lc 0) .head) (.int 0)) (.cons (.asg (.at (.lc 0) .told) (.int 0)) (.cons (.asg (.at (.lc 0) .clauses) (.lst .nil)) (.cons (.asg (.at (.lc 0) .steps) (.lst .nil)) (.cons (.asg (.at (.lc 0) .droppable) (.lst .nil)) (.cons (.asg (.at (.lc 0) .activities) (.lst .nil)) (.cons (.asg (.at (.lc 0) .learnt_count) (.int 0)) .nil)))))))))))))))))
noncomputable def nc_t_grow:NC:=[("self",0),("var",1)]
noncomputable def body_t_grow:Sts:=(.cons (.asg (.nm 1) (.len (.at (.lc 0) .assigns))) (.cons (.ex (.app (.at (.lc 0) .assigns) (.gl "UNKNOWN"))) (.cons (.ex (.app (.at (.lc 0) .levels) (.int 0))) (.cons (.ex (.app (.at (.lc 0) .reasons) (.gl "NO_CLAUSE"))) (.cons (.ex (.app (.at (.lc 0) .spots) (.int 0))) (.cons (.ex (.app (.at (.lc 0) .phases) (.gl "FALSE"))) (.cons (.ex (.app (.at (.lc 0) .watches) (.lst .nil))) (.cons (.ex (.app (.at (.lc 0) .watches) (.lst .nil))) (.cons (.ex (.meth (.at (.lc 0) .heap) .h_grow (.cons (.lc 1) .nil))) (.cons (.ret (.lc 1)) .nil))))))))))
noncomputable def nc_t_value:NC:=[("self",0),("lit",1)]
noncomputable def body_t_value:Sts:=(.cons (.ret (.ite (.cmp .gt (.lc 1) (.int 0)) (.sub (.at (.lc 0) .assigns) (.lc 1)) (.neg (.sub (.at (.lc 0) .assigns) (.neg (.lc 1)))))) .nil)
noncomputable def nc_t_depth:NC:=[("self",0)]
noncomputable def body_t_depth:Sts:=(.cons (.ret (.len (.at (.lc 0) .starts))) .nil)
noncomputable def nc_t_store:NC:=[("self",0),("clause",1),("step",2),("can_drop",3),("number",4)]
noncomputable def body_t_store:Sts:=(.cons (.asg (.nm 4) (.len (.at (.lc 0) .clauses))) (.cons (.ex (.app (.at (.lc 0) .clauses) (.toList (.lc 1)))) (.cons (.ex (.app (.at (.lc 0) .steps) (.lc 2))) (.cons (.ex (.app (.at (.lc 0) .droppable) (.lc 3))) (.cons (.ex (.app (.at (.lc 0) .activities) (.int 0))) (.cons (.ifs (.lc 3) (.cons (.asg (.at (.lc 0) .learnt_count) (.bin .add (.at (.lc 0) .learnt_count) (.int 1))) .nil) .nil) (.cons (.ret (.lc 4)) .nil)))))))
noncomputable def nc_t_watch:NC:=[("self",0),("number",1),("lits",2)]
noncomputable def body_t_watch:Sts:=(.cons (.asg (.nm 2) (.sub (.at (.lc 0) .clauses) (.lc 1))) (.cons (.ex (.app (.sub (.at (.lc 0) .watches) (.call .place_of (.cons (.sub (.lc 2) (.int 0)) .nil))) (.lc 1))) (.cons (.ex (.app (.sub (.at (.lc 0) .watches) (.call .place_of (.cons (.sub (.lc 2) (.int 1)) .nil))) (.lc 1))) .nil)))
noncomputable def nc_t_height:NC:=[("self",0),("lit",1)]
noncomputable def body_t_height:Sts:=(.cons (.ifs (.cmp .ne (.meth (.lc 0) .t_value (.cons (.lc 1) .nil)) (.gl "FALSE")) (.cons (.ret (.bin .add (.meth (.lc 0) .t_depth .nil) (.int 1))) .nil) .nil) (.cons (.ret (.sub (.at (.lc 0) .levels) (.abs (.lc 1)))) .nil))
noncomputable def nc_t_byh:NC:=[("self",0),("lits",1),("found",2)]
noncomputable def body_t_byh:Sts:=(.cons (.asg (.nm 2) (.sorted (.lc 1) (.fn .order_key))) (.cons (.ex (.sortBy (.lc 2) (.lc 0))) (.cons (.ret (.lc 2)) .nil)))
noncomputable def nc_t_place:NC:=[("self",0),("number",1),("lits",2)]
noncomputable def body_t_place:Sts:=(.cons (.ifs (.cmp .lt (.len (.sub (.at (.lc 0) .clauses) (.lc 1))) (.int 2)) (.cons (.ex (.meth (.lc 0) .t_cancel (.cons (.int 0) .nil))) .nil) .nil) (.cons (.asg (.nm 2) (.meth (.lc 0) .t_byh (.cons (.sub (.at (.lc 0) .clauses) (.lc 1)) .nil))) (.cons (.asg (.sub (.at (.lc 0) .clauses) (.lc 1)) (.lc 2)) (.cons (.ifs (.cmp .gt (.len (.lc 2)) (.int 1)) (.cons (.ex (.meth (.lc 0) .t_watch (.cons (.lc 1) .nil))) .nil) .nil) (.cons (.ifs (.or (.cmp .eq (.len (.lc 2)) (.int 0)) (.cmp .eq (.meth (.lc 0) .t_value (.cons (.sub (.lc 2) (.int 0)) .nil)) (.gl "FALSE"))) (.cons (.ret (.lc 1)) .nil) .nil) (.cons (.ifs (.cmp .eq (.meth (.lc 0) .t_value (.cons (.sub (.lc 2) (.int 0)) .nil)) (.gl "UNKNOWN")) (.cons (.ifs (.cmp .eq (.len (.lc 2)) (.int 1)) (.cons (.ex (.meth (.lc 0) .t_enq (.cons (.sub (.lc 2) (.int 0)) (.cons (.lc 1) .nil)))) .nil) (.cons (.ifs (.cmp .eq (.meth (.lc 0) .t_value (.cons (.sub (.lc 2) (.int 1)) .nil)) (.gl "FALSE")) (.cons (.ex (.meth (.lc 0) .t_cancel (.cons (.sub (.at (.lc 0) .levels) (.abs (.sub (.lc 2) (.int 1)))) .nil))) (.cons (.ex (.meth (.lc 0) .t_enq (.cons (.sub (.lc 2) (.int 0)) (.cons (.lc 1) .nil)))) .nil)) .nil) .nil)) .nil) .nil) (.cons (.ret (.gl "NO_CLAUSE")) .nil)))))))
noncomputable def nc_t_enq:NC:=[("self",0),("lit",1),("number",2),("var",3)]
noncomputable def body_t_enq:Sts:=(.cons (.asg (.nm 3) (.abs (.lc 1))) (.cons (.asg (.sub (.at (.lc 0) .assigns) (.lc 3)) (.ite (.cmp .gt (.lc 1) (.int 0)) (.gl "TRUE") (.gl "FALSE"))) (.cons (.asg (.sub (.at (.lc 0) .levels) (.lc 3)) (.meth (.lc 0) .t_depth .nil)) (.cons (.asg (.sub (.at (.lc 0) .reasons) (.lc 3)) (.lc 2)) (.cons (.asg (.sub (.at (.lc 0) .spots) (.lc 3)) (.len (.at (.lc 0) .trail))) (.cons (.ex (.app (.at (.lc 0) .trail) (.lc 1))) .nil))))))
noncomputable def nc_t_newlev:NC:=[("self",0)]
noncomputable def body_t_newlev:Sts:=(.cons (.ex (.app (.at (.lc 0) .starts) (.len (.at (.lc 0) .trail)))) (.cons (.ifs (.cmp .isNot (.at (.lc 0) .hook) .none) (.cons .boom .nil) .nil) .nil))
noncomputable def nc_t_cancel:NC:=[("self",0),("level",1),("count",2),("start",3),("spot",4),("var",5)]
noncomputable def body_t_cancel:Sts:=(.cons (.asg (.nm 2) (.bin .sub (.meth (.lc 0) .t_depth .nil) (.lc 1))) (.cons (.ifs (.cmp .le (.lc 2) (.int 0)) (.cons .ret0 .nil) .nil) (.cons (.asg (.nm 3) (.sub (.at (.lc 0) .starts) (.lc 1))) (.cons (.for_ [4] (.rng (.bin .sub (.len (.at (.lc 0) .trail)) (.int 1)) (.bin .sub (.lc 3) (.int 1)) (.neg (.int 1)) 3) (.cons (.asg (.nm 5) (.abs (.sub (.at (.lc 0) .trail) (.lc 4)))) (.cons (.asg (.sub (.at (.lc 0) .phases) (.lc 5)) (.sub (.at (.lc 0) .assigns) (.lc 5))) (.cons (.asg (.sub (.at (.lc 0) .assigns) (.lc 5)) (.gl "UNKNOWN")) (.cons (.asg (.sub (.at (.lc 0) .reasons) (.lc 5)) (.gl "NO_CLAUSE")) (.cons (.ex (.meth (.at (.lc 0) .heap) .h_push (.cons (.lc 5) .nil))) .nil)))))) (.cons (.asg (.at (.lc 0) .trail) (.sliceTo (.at (.lc 0) .trail) (.lc 3))) (.cons (.asg (.at (.lc 0) .starts) (.sliceTo (.at (.lc 0) .starts) (.lc 1))) (.cons (.asg (.at (.lc 0) .head) (.min (.at (.lc 0) .head) (.lc 3))) (.cons (.asg (.at (.lc 0) .told) (.min (.at (.lc 0) .told) (.lc 3))) (.cons (.ifs (.cmp .isNot (.at (.lc 0) .hook) .none) (.cons .boom .nil) .nil) .nil)))))))))
noncomputable def nc_t_prop:NC:=[("self",0),("gone",1),("conflict",2)]
noncomputable def body_t_prop:Sts:=(.cons (.whl (.cmp .lt (.at (.lc 0) .head) (.len (.at (.lc 0) .trail))) (.cons (.asg (.nm 1) (.neg (.sub (.at (.lc 0) .trail) (.at (.lc 0) .head)))) (.cons (.asg (.at (.lc 0) .head) (.bin .add (.at (.lc 0) .head) (.int 1))) (.cons (.asg (.nm 2) (.meth (.lc 0) .t_visit (.cons (.lc 1) .nil))) (.cons (.ifs (.cmp .ne (.lc 2) (.gl "NO_CLAUSE")) (.cons (.asg (.at (.lc 0) .head) (.len (.at (.lc 0) .trail))) (.cons (.ret (.lc 2)) .nil)) .nil) .nil))))) (.cons (.ret (.gl "NO_CLAUSE")) .nil))
noncomputable def nc_t_visit:NC:=[("self",0),("gone",1),("watching",2),("kept",3),("conflict",4),("spot",5),("number",6),("lits",7)]
noncomputable def body_t_visit:Sts:=(.cons (.asg (.nms [2,3,4]) (.tup (.cons (.sub (.at (.lc 0) .watches) (.call .place_of (.cons (.lc 1) .nil))) (.cons (.lst .nil) (.cons (.gl "NO_CLAUSE") .nil))))) (.cons (.for_ [5] (.rng (.int 0) (.len (.lc 2)) (.int 1) 1) (.cons (.asg (.nm 6) (.sub (.lc 2) (.lc 5))) (.cons (.asg (.nm 7) (.sub (.at (.lc 0) .clauses) (.lc 6))) (.cons (.ifs (.cmp .is_ (.lc 7) .none) (.cons .cont .nil) .nil) (.cons (.ifs (.cmp .eq (.sub (.lc 7) (.int 0)) (.lc 1)) (.cons (.asg (.sub2 (.lc 7) (.int 0) (.lc 7) (.int 1)) (.tup (.cons (.sub (.lc 7) (.int 1)) (.cons (.lc 1) .nil)))) .nil) .nil) (.cons (.ifs (.and (.cmp .ne (.meth (.lc 0) .t_value (.cons (.sub (.lc 7) (.int 0)) .nil)) (.gl "TRUE")) (.meth (.lc 0) .t_moved (.cons (.lc 6) (.cons (.lc 7) .nil)))) (.cons .cont .nil) .nil) (.cons (.ex (.app (.lc 3) (.lc 6))) (.cons (.ifs (.cmp .eq (.meth (.lc 0) .t_value (.cons (.sub (.lc 7) (.int 0)) .nil)) (.gl "FALSE")) (.cons (.asg (.nm 4) (.lc 6)) (.cons (.ex (.ext (.lc 3) (.sliceFrom (.lc 2) (.bin .add (.lc 5) (.int 1))))) (.cons .brk .nil))) .nil) (.cons (.ifs (.cmp .eq (.meth (.lc 0) .t_value (.cons (.sub (.lc 7) (.int 0)) .nil)) (.gl "UNKNOWN")) (.cons (.ex (.meth (.lc 0) .t_enq (.cons (.sub (.lc 7) (.int 0)) (.cons (.lc 6) .nil)))) .nil) .nil) .nil))))))))) (.cons (.asg (.sub (.at (.lc 0) .watches) (.call .place_of (.cons (.lc 1) .nil))) (.lc 3)) (.cons (.ret (.lc 4)) .nil))))
noncomputable def nc_t_moved:NC:=[("self",0),("number",1),("lits",2),("k",3)]
noncomputable def body_t_moved:Sts:=(.cons (.for_ [3] (.rng (.int 2) (.len (.lc 2)) (.int 1) 2) (.cons (.ifs (.cmp .ne (.meth (.lc 0) .t_value (.cons (.sub (.lc 2) (.lc 3)) .nil)) (.gl "FALSE")) (.cons (.asg (.sub2 (.lc 2) (.int 1) (.lc 2) (.lc 3)) (.tup (.cons (.sub (.lc 2) (.lc 3)) (.cons (.sub (.lc 2) (.int 1)) .nil)))) (.cons (.ex (.app (.sub (.at (.lc 0) .watches) (.call .place_of (.cons (.sub (.lc 2) (.int 1)) .nil))) (.lc 1))) (.cons (.ret .tru) .nil))) .nil) .nil)) (.cons (.ret .fls) .nil))
noncomputable def nc_s_init:NC:=[("self",0),("proof",1),("hook",2)]
noncomputable def body_s_init:Sts:=(.cons (.asg (.at (.lc 0) .proof) (.lc 1)) (.cons (.asg (.at (.lc 0) .seen) (.lst (.cons .fls .nil))) (.cons (.asg (.at (.lc 0) .unit_steps) (.lst (.cons .none .nil))) (.cons (.asg (.at (.lc 0) .rooted) (.int 0)) (.cons (.asg (.at (.lc 0) .is_ok) .tru) (.cons (.asg (.at (.lc 0) .empty_step) .none) (.cons (.asg (.at (.lc 0) .failed) (.tup .nil)) (.cons (.asg (.at (.lc 0) .failed_at) .none) (.cons (.asg (.at (.lc 0) .conflict_limit) (.int 0)) (.cons (.asg (.at (.lc 0) .conflicts) (.int 0)) (.cons (.asg (.at (.lc 0) .decisions) (.int 0)) .nil)))))))))))
noncomputable def nc_s_newvar:NC:=[("self",0)]
noncomputable def body_s_newvar:Sts:=(.cons (.ex (.app (.at (.lc 0) .seen) .fls)) (.cons (.ex (.app (.at (.lc 0) .unit_steps) .none)) (.cons (.ret (.meth (.lc 0) .t_grow .nil)) .nil)))
noncomputable def nc_s_add:NC:=[("self",0),("lits",1),("step",2),("clause",3),("conflict",4)]
noncomputable def body_s_add:Sts:=(.cons (.asg (.nm 3) (.call .clause_of (.cons (.lc 1) .nil))) (.cons (.ex (.meth (.lc 0) .t_cancel (.cons (.int 0) .nil))) (.cons (.ifs (.and (.at (.lc 0) .is_ok) (.not (.call .is_always_true (.cons (.lc 3) .nil)))) (.cons (.asg (.nm 4) (.meth (.lc 0) .t_place (.cons (.meth (.lc 0) .t_store (.cons (.lc 3) (.cons (.lc 2) (.cons .fls .nil)))) .nil))) (.cons (.ifs (.cmp .ne (.lc 4) (.gl "NO_CLAUSE")) (.cons .boom .nil) .nil) .nil)) .nil) (.cons (.ret (.at (.lc 0) .is_ok)) .nil))))
noncomputable def nc_s_log:NC:=[("self",0),("clause",1),("first",2),("pairs",3),("step",4)]
noncomputable def body_s_log:Sts:=(.cons (.ifs (.or (.cmp .is_ (.at (.lc 0) .proof) .none) (.cmp .eq (.lc 3) (.lst .nil))) (.cons (.ret (.lc 2)) .nil) .nil) (.cons (.asg (.nm 4) (.meth (.at (.lc 0) .proof) .p_chain (.cons (.lc 2) (.cons (.lc 3) .nil)))) (.cons (.ifs (.cmp .ne (.meth (.at (.lc 0) .proof) .p_clause (.cons (.lc 4) .nil)) (.lc 1)) (.cons .boom .nil) .nil) (.cons (.ret (.lc 4)) .nil))))
noncomputable def nc_s_unit:NC:=[("self",0),("var",1),("lit",2),("number",3),("pairs",4),("late",5)]
noncomputable def body_s_unit:Sts:=(.cons (.whl (.cmp .is_ (.sub (.at (.lc 0) .unit_steps) (.lc 1)) .none) (.cons (.asg (.nm 2) (.sub (.at (.lc 0) .trail) (.at (.lc 0) .rooted))) (.cons (.asg (.nm 3) (.sub (.at (.lc 0) .reasons) (.abs (.lc 2)))) (.cons (.asg (.nm 4) (.lst .nil)) (.cons (.for_ [5] (.of (.call .clause_of (.cons (.sub (.at (.lc 0) .clauses) (.lc 3)) .nil))) (.cons (.ifs (.cmp .ne (.lc 5) (.lc 2)) (.cons (.ex (.app (.lc 4) (.tup (.cons (.abs (.lc 5)) (.cons (.sub (.at (.lc 0) .unit_steps) (.abs (.lc 5))) .nil))))) .nil) .nil) .nil)) (.cons (.asg (.sub (.at (.lc 0) .unit_steps) (.abs (.lc 2))) (.meth (.lc 0) .s_log (.cons (.tup (.cons (.lc 2) .nil)) (.cons (.sub (.at (.lc 0) .steps) (.lc 3)) (.cons (.lc 4) .nil))))) (.cons (.asg (.at (.lc 0) .rooted) (.bin .add (.at (.lc 0) .rooted) (.int 1))) .nil))))))) (.cons (.ret (.sub (.at (.lc 0) .unit_steps) (.lc 1))) .nil))
noncomputable def nc_s_prop:NC:=[("self",0)]
noncomputable def body_s_prop:Sts:=(.cons (.ret (.meth (.lc 0) .t_prop .nil)) .nil)
noncomputable def nc_p_init:NC:=[("self",0)]
noncomputable def body_p_init:Sts:=(.cons (.asg (.at (.lc 0) .steps) (.lst .nil)) (.cons (.asg (.at (.lc 0) .named) (.lst (.cons (.int 0) .nil))) (.cons (.asg (.at (.lc 0) .empty) (.neg (.int 1))) .nil)))
noncomputable def nc_p_size:NC:=[("self",0)]
noncomputable def body_p_size:Sts:=(.cons (.ret (.len (.at (.lc 0) .steps))) .nil)
noncomputable def nc_p_clause:NC:=[("self",0),("step",1)]
noncomputable def body_p_clause:Sts:=(.cons (.ret (.sub (.sub (.at (.lc 0) .steps) (.lc 1)) (.int 1))) .nil)
noncomputable def nc_p_add:NC:=[("self",0),("rule",1),("clause",2),("premises",3),("note",4),("number",5),("one",6)]
noncomputable def body_p_add:Sts:=(.cons (.asg (.nm 5) (.len (.at (.lc 0) .steps))) (.cons (.ifs (.cmp .notIn (.lc 1) (.gl "RULES")) (.cons .boom .nil) .nil) (.cons (.ifs (.not (.call .is_tidy (.cons (.lc 2) .nil))) (.cons .boom .nil) .nil) (.cons (.for_ [6] (.of (.lc 3)) (.cons (.ifs (.not (.cmp2 (.int 0) .le (.lc 6) .lt (.lc 5))) (.cons .boom .nil) .nil) .nil)) (.cons (.ex (.app (.at (.lc 0) .steps) (.tup (.cons (.lc 1) (.cons (.toTuple (.lc 2)) (.cons (.toTuple (.lc 3)) (.cons (.lc 4) .nil))))))) (.cons (.ifs (.and (.cmp .eq (.len (.lc 2)) (.int 0)) (.cmp .lt (.at (.lc 0) .empty) (.int 0))) (.cons (.asg (.at (.lc 0) .empty) (.lc 5)) .nil) .nil) (.cons (.ret (.lc 5)) .nil)))))))
noncomputable def nc_p_chain:NC:=[("self",0),("first",1),("pairs",2),("stand",3),("variable",4),("other",5),("premises",6)]
noncomputable def body_p_chain:Sts:=(.cons (.asg (.nm 3) (.meth (.lc 0) .p_clause (.cons (.lc 1) .nil))) (.cons (.for_ [4,5] (.of (.lc 2)) (.cons (.asg (.nm 3) (.call .resolve_on (.cons (.lc 3) (.cons (.meth (.lc 0) .p_clause (.cons (.lc 5) .nil)) (.cons (.lc 4) .nil))))) (.cons (.ifs (.cmp .is_ (.lc 3) .none) (.cons .boom .nil) .nil) .nil))) (.cons (.ifs (.cmp .eq (.len (.lc 2)) (.int 0)) (.cons (.ret (.lc 1)) .nil) .nil) (.cons (.asg (.nm 6) (.bin .add (.tup (.cons (.lc 1) .nil)) (.toTuple (.comp (.lc 8) [7,8] (.of (.lc 2)) .nil [("variable",7),("other",8)])))) (.cons (.ret (.meth (.lc 0) .p_add (.cons (.str "resolve") (.cons (.lc 3) (.cons (.lc 6) (.cons (.toTuple (.comp (.lc 9) [9,10] (.of (.lc 2)) .nil [("variable",9),("other",10)])) .nil)))))) .nil)))))
noncomputable def nc_law:NC:=[("script",0),("feed",1),("truths",2),("clauses",3),("many",4),("part",5),("told",6),("core",7),("twin",8),("lot",9),("known",10),("asked",11),("lit",12),("last",13)]
noncomputable def body_law:Sts:=(.cons (.asg (.nm 1) (.dictS "cells" (.toList (.sliceTo (.lc 0) (.int 48))) "at" (.int 0))) (.cons (.asg (.nms [2,3]) (.call .world (.cons (.lc 1) .nil))) (.cons (.asg (.nms [4,5,6]) (.tup (.cons (.bin .add (.len (.lc 2)) (.int 1)) (.cons (.call .draw (.cons (.lc 1) (.cons (.bin .add (.len (.lc 3)) (.int 1)) .nil))) (.cons .dict0 .nil))))) (.cons (.asg (.nms [7,8]) (.tup (.cons (.call .lcore (.cons (.lc 4) .nil)) (.cons (.call .lcore (.cons (.lc 4) .nil)) .nil)))) (.cons (.for_ [9] (.of (.tup (.cons (.sliceTo (.lc 3) (.lc 5)) (.cons (.sliceFrom (.lc 3) (.lc 5)) .nil)))) (.cons (.ifs (.or (.not (.call .taken (.cons (.lc 7) (.cons (.lc 9) .nil)))) (.not (.call .taken (.cons (.lc 8) (.cons (.lc 9) .nil))))) (.cons (.ret .fls) .nil) .nil) (.cons (.asg (.nm 10) (.toList (.at (.lc 7) .trail))) (.cons (.ifs (.cmp .ne (.comp (.lc 14) [14] (.of (.lc 10)) (.cons (.cmp .notIn (.lc 14) (.lc 2)) .nil) [("truths",2),("lit",14)]) (.lst .nil)) (.cons (.ret .fls) .nil) .nil) (.cons (.ifs (.cmp .eq (.call .draw (.cons (.lc 1) (.cons (.int 2) .nil))) (.int 1)) (.cons (.ex (.meth (.lc 7) .t_newlev .nil)) (.cons (.ex (.meth (.lc 7) .t_enq (.cons (.lc 4) (.cons (.neg (.int 1)) .nil)))) .nil)) .nil) (.cons (.asg (.nm 11) (.comp (.sub (.lc 10) (.call .draw (.cons (.lc 1) (.cons (.len (.lc 10)) .nil)))) [15] (.rng (.int 0) (.ite (.cmp .ne (.lc 10) (.lst .nil)) (.call .draw (.cons (.lc 1) (.cons (.int 4) .nil))) (.int 0)) (.int 1) 1) .nil [("feed",1),("known",10),("lap",15)])) (.cons (.for_ [12] (.of (.lc 11)) (.cons (.ifs (.not (.call .right (.cons (.lc 7) (.cons (.lc 12) (.cons (.lc 4) (.cons (.lc 6) .nil)))))) (.cons (.ret .fls) .nil) .nil) .nil)) (.cons (.asg (.nm 13) (.last1 (.comp (.lc 16) [16] (.of (.lc 10)) (.cons (.cmp .in_ (.lc 16) (.lc 11)) .nil) [("asked",11),("lit",16)]))) (.cons (.ifs (.and (.cmp .ne (.lc 13) (.lst .nil)) (.cmp .ne (.meth (.at (.lc 8) .proof) .p_clause (.cons (.meth (.lc 8) .s_unit (.cons (.abs (.sub (.lc 13) (.int 0))) .nil)) .nil)) (.tup (.cons (.sub (.lc 13) (.int 0)) .nil)))) (.cons (.ret .fls) .nil) .nil) (.cons (.ifs (.cmp .ne (.at (.at (.lc 8) .proof) .steps) (.at (.at (.lc 7) .proof) .steps)) (.cons (.ret .fls) .nil) .nil) .nil)))))))))) (.cons (.for_ [12] (.of (.lc 2)) (.cons (.ifs (.not (.call .right (.cons (.lc 7) (.cons (.lc 12) (.cons (.lc 4) (.cons (.lc 6) .nil)))))) (.cons (.ret .fls) .nil) .nil) .nil)) (.cons (.ret (.cmp .eq (.sorted (.lc 6) .abs) (.lc 2))) .nil)))))))
noncomputable def ncOf:Fn->NC|.place_of=>nc_place_of|.order_key=>nc_order_key|.clause_of=>nc_clause_of|.is_always_true=>nc_is_always_true|.order_of=>nc_order_of|.tidy=>nc_tidy|.is_tidy=>nc_is_tidy|.resolve_on=>nc_resolve_on|.draw=>nc_draw|.lclause=>nc_lclause|.world=>nc_world|.lcore=>nc_lcore|.taken=>nc_taken|.rested=>nc_rested|.column=>nc_column|.follows=>nc_follows|.right=>nc_right|.h_init=>nc_h_init|.h_many=>nc_h_many|.h_held=>nc_h_held|.h_before=>nc_h_before|.h_grow=>nc_h_grow|.h_put=>nc_h_put|.h_rise=>nc_h_rise|.h_push=>nc_h_push|.t_init=>nc_t_init|.t_grow=>nc_t_grow|.t_value=>nc_t_value|.t_depth=>nc_t_depth|.t_store=>nc_t_store|.t_watch=>nc_t_watch|.t_height=>nc_t_height|.t_byh=>nc_t_byh|.t_place=>nc_t_place|.t_enq=>nc_t_enq|.t_newlev=>nc_t_newlev|.t_cancel=>nc_t_cancel|.t_prop=>nc_t_prop|.t_visit=>nc_t_visit|.t_moved=>nc_t_moved|.s_init=>nc_s_init|.s_newvar=>nc_s_newvar|.s_add=>nc_s_add|.s_log=>nc_s_log|.s_unit=>nc_s_unit|.s_prop=>nc_s_prop|.p_init=>nc_p_init|.p_size=>nc_p_size|.p_clause=>nc_p_clause|.p_add=>nc_p_add|.p_chain=>nc_p_chain
noncomputable def bodyOf:Fn->Sts|.place_of=>body_place_of|.order_key=>body_order_key|.clause_of=>body_clause_of|.is_always_true=>body_is_always_true|.order_of=>body_order_of|.tidy=>body_tidy|.is_tidy=>body_is_tidy|.resolve_on=>body_resolve_on|.draw=>body_draw|.lclause=>body_lclause|.world=>body_world|.lcore=>body_lcore|.taken=>body_taken|.rested=>body_rested|.column=>body_column|.follows=>body_follows|.right=>body_right|.h_init=>body_h_init|.h_many=>body_h_many|.h_held=>body_h_held|.h_before=>body_h_before|.h_grow=>body_h_grow|.h_put=>body_h_put|.h_rise=>body_h_rise|.h_push=>body_h_push|.t_init=>body_t_init|.t_grow=>body_t_grow|.t_value=>body_t_value|.t_depth=>body_t_depth|.t_store=>body_t_store|.t_watch=>body_t_watch|.t_height=>body_t_height|.t_byh=>body_t_byh|.t_place=>body_t_place|.t_enq=>body_t_enq|.t_newlev=>body_t_newlev|.t_cancel=>body_t_cancel|.t_prop=>body_t_prop|.t_visit=>body_t_visit|.t_moved=>body_t_moved|.s_init=>body_s_init|.s_newvar=>body_s_newvar|.s_add=>body_s_add|.s_log=>body_s_log|.s_unit=>body_s_unit|.s_prop=>body_s_prop|.p_init=>body_p_init|.p_size=>body_p_size|.p_clause=>body_p_clause|.p_add=>body_p_add|.p_chain=>body_p_chain
noncomputable def nmOf:Fn->List Str|.place_of=>["lit"]|.order_key=>["lit"]|.clause_of=>["lits","found","lit"]|.is_always_true=>["clause","k"]|.order_of=>["literal"]|.tidy=>["literals","kept","literal"]|.is_tidy=>["clause","place"]|.resolve_on=>["one","other","variable","rest","literal","literal","literal","literal"]|.draw=>["feed","wide","k"]|.lclause=>["lits","v","lit"]|.world=>["feed","truths","clauses","k","lit","elder","lap","late","turn","v","lap"]|.lcore=>["many","core","v"]|.taken=>["core","lot","clause"]|.rested=>["proof","step","found","left","rule","clause","premises","note"]|.column=>["lit","many","full","low"]|.follows=>["clauses","lit","many","left","clause","kept","one"]|.right=>["core","lit","many","told","step","size"]|.h_init=>["self","limit"]|.h_many=>["self"]|.h_held=>["self","var"]|.h_before=>["self","one","other"]|.h_grow=>["self","n"]|.h_put=>["self","spot","var"]|.h_rise=>["self","spot","var","above"]|.h_push=>["self","var"]|.t_init=>["self","hook"]|.t_grow=>["self","var"]|.t_value=>["self","lit"]|.t_depth=>["self"]|.t_store=>["self","clause","step","can_drop","number"]|.t_watch=>["self","number","lits"]|.t_height=>["self","lit"]|.t_byh=>["self","lits","found"]|.t_place=>["self","number","lits"]|.t_enq=>["self","lit","number","var"]|.t_newlev=>["self"]|.t_cancel=>["self","level","count","start","spot","var"]|.t_prop=>["self","gone","conflict"]|.t_visit=>["self","gone","watching","kept","conflict","spot","number","lits"]|.t_moved=>["self","number","lits","k"]|.s_init=>["self","proof","hook"]|.s_newvar=>["self"]|.s_add=>["self","lits","step","clause","conflict"]|.s_log=>["self","clause","first","pairs","step"]|.s_unit=>["self","var","lit","number","pairs","late"]|.s_prop=>["self"]|.p_init=>["self"]|.p_size=>["self"]|.p_clause=>["self","step"]|.p_add=>["self","rule","clause","premises","note","number","one"]|.p_chain=>["self","first","pairs","stand","variable","other","premises","variable","other","variable","other"]
noncomputable def stmtsOf:Fn->List Stmt|.s_init=>(fBody (astOf .s_init)).tail|f=>fBody (astOf f)
noncomputable def namesOf(a:Stmt):List Str:=(fParams a).args.map (·.arg)
noncomputable def rpOf(a:Stmt)(nm:List Str):Rp:=(fun i=>nm.getD i "",fun p=>nav p (.ns a))
noncomputable def rpF(f:Fn):Rp:=if f=.s_init then(rpOf (astOf f) (nmOf f)).sh 1 else rpOf (astOf f) (nmOf f)
noncomputable def rpLaw:Rp:=rpOf (stAt 36) ["script","feed","truths","clauses","many","part","told","core","twin","lot","known","asked","lit","last","lit","lap","lit"]
noncomputable def entOk(a:Stmt)(nc:NC)(body:Sts)(r:Rp):Bool:=[(fParams a).posonlyargs.isEmpty,(fParams a).kwonlyargs.isEmpty,(fParams a).vararg.isNone,(fParams a).kwarg.isNone,(namesOf a).all (fun x=>(fScope a).names.lookup x==some .local||(fScope a).names.lookup x==some .cell),decide (namesOf a).Nodup,chkSs (fScope a) nc body r,ncOk nc,nc.all (fun p=>decide ((namesOf a).length<=p.2)||(namesOf a)[p.2]?==some p.1),!(fScope a).isCoroutine,!(fScope a).isGenerator,(fScope a).kind==.function].all id
def EntOk(a:Stmt)(nc:NC)(body:Sts)(stmts:List Stmt):Prop:=∃r,entOk a nc body r=true/\stmts=toSs body r
noncomputable def noFree(a:Stmt):Bool:=(fScope a).names.all fun x=>!(x.2==.free)
theorem ent_ok:allFn.all (fun f=>entOk (astOf f) (ncOf f) (bodyOf f) (rpF f))=true:=by decide+kernel
theorem ent_eq:allFn.map (fun f=>stmtsOf f)=allFn.map fun f=>toSs (bodyOf f) (rpF f):=by kernel_rfl
theorem ent_law:EntOk (stAt 36) nc_law body_law (fBody (stAt 36)):=⟨rpLaw,by decide+kernel,by kernel_rfl⟩
theorem ent_all(f:Fn):EntOk (astOf f) (ncOf f) (bodyOf f) (stmtsOf f):=⟨rpF f,yL.mp ent_ok f (allFn_mem f),List.map_inj_left.mp ent_eq f (allFn_mem f)⟩
theorem free_ok:allFn.all (fun f=>decide (f=.s_init)||noFree (astOf f))=true:=by decide+kernel
theorem free_all:∀f,f≠.s_init->noFree (astOf f)=true:=fun f h=>by
 have :=yL.mp free_ok f (allFn_mem f);rw[Bool.or_eq_true,decide_eq_true_eq]at this;exact this.resolve_left h
set_option backward.match.sparseCases true
theorem trim(h:Heap):∃h':Heap,(∀a,h'.get? a=h.get? a)/\∀n,h'.objs.size=n+1->∃o,h'.get? n=some o:=by
 obtain⟨⟨objs⟩,life⟩:=h;generalize hn:objs.length=n
 induction n generalizing objs with|zero=>
  refine⟨⟨⟨objs⟩,life⟩,fun _=>rfl,fun n e=>?_⟩;have :objs.length=n+1:=e;exact False.elim (lB 0x77f7f25041210002602008080650202 tT hn this)|succ n ih=>
  cases q:(⟨⟨objs⟩,life⟩:Heap).get? n with
  |some o=>
      refine⟨⟨⟨objs⟩,life⟩,fun _=>rfl,fun m e=>?_⟩;have :objs.length=m+1:=e;clear e;obtain rfl:n=m:=by exact lC 0x7817f25041210207f812504120020261000 tT hn this
      exact⟨o,q⟩|none=>
      refine xea (ih objs.dropLast (by rw[List.length_dropLast];exact lC 0x78180252004120080810504120020817f2504121020261000 tT hn (le_sub_ad _ _) (yC (lB 0x77f7f2504121000060012 tT hn)))) fun h' h1 h2=>?_;refine⟨h',fun a=>(h1 a).trans ?_,h2⟩;revert a;show∀a:Nat,_;intro a;by_cases ha:a<n
      . show(match(⟨objs.dropLast⟩:Array Obj)[a]? with|some ⟨_,_,.freed,_⟩=>none|o=>o)=(match(⟨objs⟩:Array Obj)[a]? with|some ⟨_,_,.freed,_⟩=>none|o=>o);have :(⟨objs.dropLast⟩:Array Obj)[a]?=(⟨objs⟩:Array Obj)[a]?:=by
          simp only[List.getElem?_toArray];rw[List.getElem?_dropLast,zU (by exact lD 0x706041210201630007f7f2504123020161000 tT hn ha (le_sub_ad _ _))]
        rw[this]
      . have e1:(⟨⟨objs.dropLast⟩,life⟩:Heap).get? a=none:=by
          cases z:(⟨⟨objs.dropLast⟩,life⟩:Heap).get? a with|none=>rfl|some o=>
            have :a<objs.dropLast.length:=Heap.lt_size z;rw[List.length_dropLast]at this;exact False.elim (lD 0x7260004123016302006201026041210008080650202 tT hn (Nat.le_of_not_lt ha) this (yC (lB 0x77f7f2504121000060012 tT hn)))
        rw[e1];by_cases hb:a=n;.clear ih hn ha;subst hb;exact q.symm
        .cases z:(⟨⟨objs⟩,life⟩:Heap).get? a with|none=>rfl|some o=>
      have :a<objs.length:=Heap.lt_size z;exact False.elim ((Nat.lt_or_gt_of_ne hb).elim (fun a=>lB 0x71600100610008080650202 tT (Nat.le_of_not_lt ha) a) fun a=>lC 0x716201016002026041210008080650202 tT hn this a)
theorem fdO_of(e:(fdO o).globals=mainGlobals):∃ob,o=some ob/\ob.data=.func (fdO o):=by
 have nd:¬(default:FuncData).globals=mainGlobals:=by decide
 cases o with|none=>exact absurd e nd|some o=>
  obtain⟨c,d,x,sl⟩:=o;cases x with|func d=>exact⟨_,rfl,rfl⟩|_=>exact absurd e nd
theorem fdAt_spec{a:Addr}(e:(fdAt h a).globals=mainGlobals):∃o,h.get? a=some o/\o.data=.func (fdAt h a):=fdO_of e
theorem fm_congr{β:Type}{f g:α->Option β}{l:List α}:(∀x∈l,f x=g x)->l.filterMap f=l.filterMap g:=by
 induction l with|nil=>exact fun _=>rfl|cons a l ih=>exact fun h=>by rw[List.filterMap_cons,List.filterMap_cons,h a (zF ..),ih fun x hx=>h x (zI _ hx)]
theorem zip_lookup:∀{vals:List Value},names.Nodup->vals.length=names.length->(names.filterMap fun n=>((names.zip vals).lookup n).map (n,.))=names.zip vals:=by
 induction names with|nil=>exact fun _ _=>rfl|cons n ns ih=>
  intro vals hn h;cases vals with|nil=>cases h|cons v vs=>
   have hn:=List.nodup_cons.mp hn;rw[List.zip_cons_cons,List.filterMap_cons,yK,beq_self_eq_true];refine zG (_::.) (Eq.trans (fm_congr fun x hx=>?_) (ih hn.2 (Nat.succ.inj h)));rw[yK,show(x==n)=false from zQ.mpr fun q=>hn.1 (q▸hx)]
theorem zip_isSome{n:Str}:∀{vals:List Value},vals.length=names.length->n∈names->((names.zip vals).lookup n).isSome=true:=by
 induction names with|nil=>exact fun _ h=>absurd h List.not_mem_nil|cons m ns ih=>
  intro vals h hm;cases vals with|nil=>cases h|cons v vs=>
   rw[List.zip_cons_cons,yK];cases q:n==m with|true=>rfl|false=>exact ih (Nat.succ.inj h) ((zL.mp hm).resolve_left (zQ.mp q))
theorem bind_plain{vals:List Value}(h1:fd.params.posonlyargs=[])(h2:fd.params.kwonlyargs=[])(h3:fd.params.vararg=none)(h4:fd.params.kwarg=none)(hd:fd.defaults=.none)(hn:(fd.params.args.map (·.arg)).Nodup)(hl:vals.length=(fd.params.args.map (·.arg)).length):bindArgs fd ⟨vals,[]⟩=pure ((fd.params.args.map (·.arg)).zip vals):=by
 obtain⟨_,_,p⟩:=fd;obtain⟨_,_,_,_,_⟩:=p;dsimp only at h1 h2 h3 h4 hd hn hl⊢;subst h1 h2 h3 h4 hd;generalize hN:List.map (fun x:Arg=>x.arg) _=N at hn hl⊢;generalize hB:bindArgs _ _=B;have key:∃X Y,B=(if(decide (vals.length>N.length)&&true)=true then X else if(!((N.take (N.length-(List.drop (([]:List Value).length-N.length) ([]:List Value)).length)).filter fun n=>((N.zip vals).lookup n).isNone).isEmpty)=true then Y else(forIn ((N.drop (N.length-(List.drop (([]:List Value).length-N.length) ([]:List Value)).length)).zip (List.drop (([]:List Value).length-N.length) ([]:List Value))) (N.zip vals) fun x r=>do if(r.lookup x.1).isNone then pure (ForInStep.yield (r++[(x.1,x.2)]))else pure (ForInStep.yield r))>>=fun r=>(pure ((N++[]).filterMap fun n=>(r.lookup n).map (n,.)):Sem _)):=by clear hn hl;subst hN hB;exact⟨_,_,rfl⟩
 refine xe2 key fun X Y e=>?_;clear hB;have d0:List.drop (([]:List Value).length-N.length) ([]:List Value)=[]:=List.drop_nil;have e1:(N.filter fun n=>((N.zip vals).lookup n).isNone)=[]:=List.filter_eq_nil_iff.mpr fun a ha=>by
  have :=zip_isSome hl ha;rw[Option.isSome_iff_exists]at this;obtain⟨v,h⟩:=this;rw[h];exact Bool.false_ne_true
 rw[d0,zN (by rw[hl,Bool.and_true];exact fun h=>Nat.lt_irrefl _ (zW h)),List.length_nil,Nat.sub_zero,List.take_length,e1,zN (by exact Bool.false_ne_true),List.drop_length]at e;rw[e,List.zip_nil_left,List.forIn_nil,pure_bind,yS,zip_lookup hn hl]
set_option backward.match.sparseCases false
structure Full(B:Base)(h0:Heap):Prop where
 G:Good B
 tip:∀n,B.hp.objs.size=n+1->∃o,B.hp.get? n=some o
 fd:∀f,B.fd f=fdAt h0 (faA f)
 K:B.K=frg h0
 prog:B.prog=pw
 fa:B.fa=faA
 ca:B.ca=caA
 keep0:∀b o,h0.get? b=some o->B.hp.get? b=some o
 obs:obs h0=want
 mg:B.mg=h0.nsMap mainGlobals
theorem want_fn(e:obs h=want)(f:Fn):fdView (fdAt h (faA f))=fdWant f:=List.map_inj_left.mp (zG Prod.fst e) f (allFn_mem f)
theorem want_law(e:obs h=want):fdView (fdAt h 781)=(fParams (stAt 36),FuncBody.stmts (fBody (stAt 36)),fScope (stAt 36),mainGlobals,builtinsNs,([]:List (Str×Addr)),Value.none,Value.none):=zG (fun x=>x.2.1) e
theorem want_ok(e:obs h=want):okB h=true:=zG (fun x=>x.2.2) e
theorem ints_vr{vs:List Value}{ns:List Int}(e:IntsAre vs ns):VRs h I n vs (ns.map .int):=by
 induction e with|nil=>exact .nil|cons i t r ih=>exact .cons (.int i t) ih
theorem svIs_of{v:Value}{s:Str}(e:svIs v s=true):∃t,v=.str s t:=by
 cases v with|str u t=>exact⟨t,zG (Value.str . t) (zW e)⟩|_=>exact ff e
theorem strs_of(ss:List Str):∀{vs:List Value},strsAre vs ss=true->VRs h I n vs (ss.map .str):=by
 induction ss with
 |nil=>intro vs e;cases vs with|nil=>exact .nil|cons v r=>exact ff e
 |cons u q ih=>intro vs e;cases vs with|nil=>exact ff e|cons v r=>exact(svIs_of (and_l e)).elim fun t h=>h▸.cons (.str u t) (ih (and_r e))
theorem isI_of{i:Int}(e:isI v i=true):∃t,v=some (.int i t):=by
 cases v with|none=>exact ff e|some v=>cases v with|int j t=>exact⟨t,zG (fun j=>some (Value.int j t)) (zW e)⟩|_=>exact ff e
theorem refIn_of{f:Addr->Bool}(e:refIn f v=true):∃a,v=some (.ref a)/\f a=true:=by
 cases v with|none=>exact ff e|some v=>cases v with|ref a=>exact⟨a,rfl,e⟩|_=>exact ff e
theorem okR1_of(e:okR1 o=true):∃its:Array Value,o=some ⟨.type "tuple",none,.seq its 0,#[]⟩/\strsAre its.toList rules=true:=by
 cases o with|none=>exact ff e|some o=>
  obtain⟨c,d,x,sl⟩:=o;cases c with
  |type t=>cases d with|some _=>exact ff e|none=>cases x with
   |seq its n=>cases n with
    |succ _=>exact ff e|zero=>
     have e1:=and_l e;have e2:=and_l (and_r e);have e3:=and_r (and_r e);clear e;cases yG.mp e1;cases Array.toList_inj.mp (List.isEmpty_iff.mp e2:sl.toList=(#[]:Array _).toList);exact⟨its,rfl,e3⟩
   |_=>exact ff e
  |_=>exact ff e
set_option tactic.hygienic true in theorem mkBase{R:WRecords}{w:World}{s₀ s₁:Shared}{mg mb:Str->Option Value}{XP:(Str->Option Value)->Heap->Prop}(G:Ground vw loose1 R XP w s₀ mg mb s₁.heap)(Y:hk.says w s₁.heap){sa:Addr}{items:Array Value}{ns:List Int}(hL:s₁.heap.IsList sa items)(hI:IntsAre items.toList ns)(hlen:ns.length<=63):∃B h0,B.w=w/\(∀a,B.hp.get? a=s₁.heap.get? a)/\B.os=s₁.os/\B.scrA=sa/\B.scr=ns/\B.mg=mg/\Full B h0:=by
  refine xea Y fun h0 k0 ho=>?_;refine xea (trim s₁.heap) fun hp hpe tip=>?_;have kp:∀b o,h0.get? b=some o->hp.get? b=some o:=fun b o e=>(hpe b).trans (k0 b o e);have k1:∀b o,s₁.heap.get? b=some o->hp.get? b=some o:=fun b o e=>(hpe b).trans e;have T:=topRead_of G.T;have ok:=want_ok ho;have hmg:mg=h0.nsMap mainGlobals:=((Heap.Ns.of_isNs (alI ok 0 rfl)).keeps k0).eq_nsMap.trans T.g.eq_nsMap.symm|>.symm;have X:(frg h0).In hp:=(frg_in h0).keeps kp;have hK:∀c,(okC (frg h0) c&&h0.nsMap mainGlobals c.nm==some (.ref (caA c)))=true:=fun c=>yL.mp (alI ok 2 rfl) c (allCls_mem c);have hC:∀c,okC (frg h0) c=true:=fun c=>and_l (hK c);have hF:∀f,okF (frg h0) h0 f=true:=fun f=>yL.mp (alI ok 3 rfl) f (allFn_mem f);have hA:∀c a,((!okAt c a||findIn (frg h0) (.ref (caA c)) a.nm==some none)&&takerIn (frg h0) (caA c) a.nm==some none)=true:=fun c a=>yL.mp (alI (hC c) 8 rfl) a (allAt_mem a);have hgl:∀f,(fdAt h0 (faA f)).globals=mainGlobals/\(fdAt h0 (faA f)).builtins=builtinsNs:=fun f=>by
    have :=want_fn ho f;exact⟨zG (fun x=>x.2.2.2.1) this,zG (fun x=>x.2.2.2.2.1) this⟩
  let B:Base:={
    prog:=pw,w:=w,hp:=hp,os:=s₁.os,K:=frg h0,inK:=X,mg:=mg,mb:=mb,pp:=vw,loose:=looseW vw loose1
    T:=⟨T.g.keeps k1,T.b.keeps k1,T.nolimit.keeps k1,T.builtins,T.free⟩
    sysm:=by
      obtain⟨o,h⟩:=Option.isSome_iff_exists.mp (alI ok 1 rfl);exact⟨o,kp _ _ h⟩
    ca:=caA
    plain:=fun c a=>alI (hC c) 7 rfl
    hasD:=fun c=>alI (hC c) 0 rfl
    noAttr:=fun c a hk=>yG.mp (orR (and_l (hA c a)) hk)
    setA:=fun c=>alE (hC c) 1 rfl
    over:=fun c=>alI (hC c) 2 rfl
    takes:=fun c a=>yG.mp (and_r (hA c a))
    fa:=faA,fd:=fun f=>fdAt h0 (faA f),scrA:=sa,scr:=ns};refine⟨B,h0,rfl,hpe,rfl,rfl,rfl,rfl,⟨?_,tip,fun _=>rfl,rfl,rfl,rfl,rfl,kp,ho,hmg⟩⟩;refine⟨by show ns.length<=1000;exact lA 0x706f332000683e33200 tT hlen,⟨items,?_,fun h I n=>ints_vr hI⟩,fun f=>?_,fun f=>codeRec_of X (alI (hF f) 4 rfl),T.nolimit.keeps k1,fun f=>alI (hF f) 0 rfl,fun f=>alI (hF f) 1 rfl,fun f=>⟨alE (hF f) 2 rfl,alE (hF f) 3 rfl⟩,fun c f hm=>?_,fun c=>⟨alI (hC c) 3 rfl,alI (hC c) 4 rfl⟩,fun c=>⟨alE (hC c) 5 rfl,alE (hC c) 6 rfl⟩,fun f hf=>?_,fun c=>(congrFun hmg _).trans (yG.mp (and_r (hK c))),?_,fun x hx=>(congrFun hmg _).trans (yG.mp (yL.mp (alI ok 4 rfl) x hx)),hgl⟩
  .refine xea hL fun o a b=>?_;exact⟨o,k1 _ _ a,b⟩
  .refine xea (fdAt_spec (hgl f).1) fun o a b=>?_;exact⟨o,kp _ _ a,b⟩
  .exact⟨yG.mp (orR (yL.mp (alI (hC c) 9 rfl) f (allFn_mem f)) hm),alI (hC c) 7 rfl⟩
  .exact(congrFun hmg _).trans (yG.mp (orR (alI (hF f) 5 rfl) hf))
  . intro x y e;show∃v,mg x=some v/\_;rw[hmg];unfold glbV at e;have hi:∀i:Int,isI (h0.nsMap mainGlobals x) i=true->y=.int i->∃v,h0.nsMap mainGlobals x=some v/\∀(h:Heap)(I:Interp)(n:Nat),(∀b o,B.hp.get? b=some o->h.get? b=some o)->VR h I n v y:=fun i q r=>by
      obtain⟨t,ht⟩:=isI_of q;exact⟨_,ht,fun h I n _=>r▸.int i t⟩
    split at e;.rename_i q;subst q;exact hi _ (alI ok 5 rfl) (zS e).symm
    split at e;.rename_i q;subst q;exact hi _ (alI ok 6 rfl) (zS e).symm
    split at e;.rename_i q;subst q;exact hi _ (alI ok 7 rfl) (zS e).symm
    split at e;.rename_i q;subst q;exact hi _ (alI ok 8 rfl) (zS e).symm
    split at e;.rename_i q;subst q;exact hi _ (alI ok 9 rfl) (zS e).symm
    split at e
    .rename_i q;clear hi;subst q;obtain⟨a,ha,o11⟩:=refIn_of (alI ok 10 rfl);obtain⟨its,hg,e3⟩:=okR1_of o11;refine⟨_,ha,fun h I n k=>?_⟩;rw[<-zS e];exact .tup (items:=its.toList) (k _ _ (kp _ _ hg)) (strs_of _ e3)
    .cases e
theorem bind_dflt{s:Shared}{a0 a1:Arg}{v d:Value}{T:Addr}{o:Obj}(h1:fd.params.posonlyargs=[])(h2:fd.params.kwonlyargs=[])(h3:fd.params.vararg=none)(h4:fd.params.kwarg=none)(ha:fd.params.args=[a0,a1])(hne:a0.arg≠a1.arg)(hd:fd.defaults=.ref T)(ho:s.heap.get? T=some o)(hs:o.data=.seq #[d] n):BindsTo s fd ⟨[v],[]⟩ [(a0.arg,v),(a1.arg,d)]:=by
 obtain⟨_,_,p⟩:=fd;obtain⟨_,_,_,_,_⟩:=p;dsimp only at h1 h2 h3 h4 ha hd;subst h1 h2 h3 h4 ha hd;refine BindsTo.of_defaults (fd:=_) rfl ho hs rfl ?_;have e1:(a0.arg==a1.arg)=false:=zQ.mpr hne;have e2:(a1.arg==a0.arg)=false:=zQ.mpr hne.symm;have l0:([(a0.arg,v)]:List (Str×Value)).lookup a0.arg=some v:=by rw[yK,beq_self_eq_true]
 have l1:([(a0.arg,v)]:List (Str×Value)).lookup a1.arg=none:=by rw[yK,e2];rfl
 refine Eq.trans (b:=if(!(([a0.arg]:List Str).filter fun n=>(([(a0.arg,v)]:List (Str×Value)).lookup n).isNone).isEmpty)=true then _ else(forIn [(a1.arg,d)] [(a0.arg,v)] fun x r=>do if(r.lookup x.1).isNone then pure (ForInStep.yield (r++[(x.1,x.2)]))else pure (ForInStep.yield r))>>=fun r=>(pure (([a0.arg,a1.arg]:List Str).filterMap fun n=>(r.lookup n).map (n,.)):Sem _)) rfl ((zN ?_).trans ?_);.rw[List.filter_cons,l0];exact Bool.false_ne_true
 .rw[List.forIn_cons,l1];simp[yK,e1,e2]
structure EntP(a:Stmt)(nc:NC)(body:Sts)(stmts:List Stmt):Prop where
 p1:(fParams a).posonlyargs=[]
 p2:(fParams a).kwonlyargs=[]
 p3:(fParams a).vararg=none
 p4:(fParams a).kwarg=none
 kinds:∀x∈namesOf a,(fScope a).names.lookup x=some .local\/(fScope a).names.lookup x=some .cell
 nodup:(namesOf a).Nodup
 chk:CkSs (fScope a) nc body stmts
 inj:ncOk nc=true
 idx:∀x i,nc.lookup x=some i->i<(namesOf a).length->(namesOf a)[i]?=some x
 co:(fScope a).isCoroutine=false
 gen:(fScope a).isGenerator=false
 kind:(fScope a).kind=.function
theorem ent_p(e:EntOk a nc body stmts):EntP a nc body stmts:=by
 refine xea e fun rp e es=>?_;refine⟨List.isEmpty_iff.mp (alI e 0 rfl),List.isEmpty_iff.mp (alI e 1 rfl),Option.isNone_iff_eq_none.mp (alI e 2 rfl),Option.isNone_iff_eq_none.mp (alI e 3 rfl),fun x hx=>?_,zW (alI e 5 rfl),⟨rp,es,alI e 6 rfl⟩,alI e 7 rfl,fun x i hx hi=>?_,Bool.not_eq_true' _▸alI e 9 rfl,Bool.not_eq_true' _▸alI e 10 rfl,alE e 11 rfl⟩;.exact((Bool.or_eq_true _ _).mp (yL.mp (alI e 4 rfl) x hx)).imp yG.mp yG.mp
 .exact((Bool.or_eq_true _ _).mp (yL.mp (alI e 8 rfl) (x,i) (mem_of_lookup hx))).elim (fun q=>absurd hi (Nat.not_lt.mpr (zW q))) yG.mp
theorem mkEntry{dfl:List Value}{dv:List Val}(hp:fd.params=fParams a)(hb:fd.body=.stmts stmts)(hs:fd.scope=fScope a)(hc:fd.closure=[])(e:EntOk a nc body stmts)(nf:noFree a=true)(bind:∀(s:Shared)(vals:List Value),(∀b o,B.hp.get? b=some o->s.heap.get? b=some o)->vals.length+dfl.length=(namesOf a).length->BindsTo s fd ⟨vals,[]⟩ ((namesOf a).zip (vals++dfl)))(dfr:∀h I n,VRs h I n dfl dv):Entry B fd (namesOf a) nc body stmts dfl dv:=by
 have p:=ent_p e;refine⟨hb,bind,dfr,hc,hs▸p.kinds,p.nodup,hs▸p.chk,p.inj,p.idx,hs▸p.co,hs▸p.gen,hs▸p.kind,fun x hx q=>?_⟩;rw[hs]at hx;have :=yL.mp nf x hx;rw[q]at this;cases this
theorem bindP(hp:fd.params=fParams a)(hd:fd.defaults=.none)(e:EntOk a nc body stmts)(s:Shared)(vals:List Value)(hl:vals.length=(namesOf a).length):BindsTo s fd ⟨vals,[]⟩ ((namesOf a).zip vals):=by
 have p:=ent_p e;have :=bind_plain (fd:=fd) (vals:=vals) (hp▸p.p1) (hp▸p.p2) (hp▸p.p3) (hp▸p.p4) hd (hp▸p.nodup) (by rw[hp];exact hl);rw[hp]at this;exact .of_eq this
variable{a:Addr}
noncomputable def dvOf(f:Fn):List Val:=if f=.h_init then[.int 1000000000000]else[]
theorem stmts_of(h:f≠.s_init):stmtsOf f=fBody (astOf f):=by cases f<;>first|exact absurd rfl h|rfl
theorem clo_of(h:f≠.s_init):cloOf f=[]:=zN h
theorem df_of(h:f≠.h_init):dfOf f=.none:=zN h
theorem dv_of(h:f≠.h_init):dvOf f=[]:=zN h
theorem hinit_args:∃a0 a1,(fParams (astOf .h_init)).args=[a0,a1]/\a0.arg≠a1.arg:=by
 have e:((fParams (astOf .h_init)).args.map (·.arg))=(["self","limit"]:List Str):=by decide+kernel
 generalize(fParams (astOf .h_init)).args=l at e;cases l with|nil=>exact absurd (zG List.length e) (by intro h;cases h)|cons a l=>cases l with|nil=>exact absurd (zG List.length e) (by intro h;cases h)|cons b l=>
  have e:=List.cons.inj e;have e2:=List.cons.inj e.2;cases List.map_eq_nil_iff.mp e2.2;exact⟨a,b,rfl,fun h=>absurd ((show _=a.arg from e.1.symm).trans (h.trans e2.1)) (by decide)⟩
theorem Full.law(F:Full B h0):FnAt B 781 (fdAt h0 781):=by
 have ok:=want_ok F.obs;have hv:=want_law F.obs;have hg:(fdAt h0 781).globals=mainGlobals:=zG (fun x=>x.2.2.2.1) hv;refine xea (fdAt_spec hg) fun o a b=>?_;exact⟨⟨o,F.keep0 _ _ a,b⟩,codeRec_of (F.K▸B.inK) (alI ok 14 rfl),hg,zG (fun x=>x.2.2.2.2.1) hv⟩
theorem okD1_of(e:okD1 o=true):∃c d n sl t,o=some ⟨c,d,.seq #[.int 1000000000000 t] n,sl⟩:=by
 cases o with|none=>exact ff e|some o=>
  obtain⟨c,d,x,sl⟩:=o;cases x with
  |seq its n=>
   obtain⟨l⟩:=its;cases l with
   |nil=>exact ff e|cons v r=>cases r with
    |nil=>exact(isI_of (v:=some v) e).elim fun t h=>by cases h;exact⟨_,_,_,_,t,rfl⟩|cons _ _=>exact ff e
  |_=>exact ff e
set_option tactic.hygienic true in theorem Full.call(F:Full B h0)(hf:f≠.s_init){vs:List Val}(k:Nat)(hl:vs.length+(dvOf f).length=(namesOf (astOf f)).length)(h:wpSts (WEd B d) (bodyOf f) ((vs++dvOf f).map some++List.replicate k none) S (retQ Q)):Calls B (d+1) f vs S Q:=by
  have hv:=want_fn F.obs f;rw[<-F.fd f]at hv;have ok:=want_ok F.obs;have h1:(B.fd f).params=fParams (astOf f):=zG (fun x=>x.1) hv;have h2:(B.fd f).body=.stmts (stmtsOf f):=(zG (fun x=>x.2.1) hv).trans (by rw[stmts_of hf];rfl);have h3:(B.fd f).scope=fScope (astOf f):=zG (fun x=>x.2.2.1) hv;have h4:(B.fd f).closure=[]:=(zG (fun x=>x.2.2.2.2.2.1) hv).trans (clo_of hf);have h5:(B.fd f).defaults=dfOf f:=zG (fun x=>x.2.2.2.2.2.2.1) hv;by_cases hi:f=.h_init
  . subst hi;obtain⟨cl,cd,n,sl,T,hg⟩:=okD1_of (alI ok 11 rfl);refine xe2a hinit_args fun a0 a1 e1 e2=>?_;have en:namesOf (astOf .h_init)=[a0.arg,a1.arg]:=by unfold namesOf;rw[e1];rfl
    have p:=ent_p (ent_all .h_init);refine calls_intro F.G F.tip (dfl:=[.int 1000000000000 T]) (dv:=[.int 1000000000000]) (mkEntry h1 h2 h3 h4 (ent_all _) (free_all _ hf) (fun s vals hk hl=>?_) (fun h I n=>.cons (.int _ _) .nil)) hl h;rw[en]at hl⊢;cases vals with|nil=>exact absurd hl (by intro h;cases h)|cons v vals=>cases vals with|cons _ _=>exact absurd (Nat.succ.inj (Nat.succ.inj hl)) (Nat.succ_ne_zero _)|nil=>exact bind_dflt (h1▸p.p1) (h1▸p.p2) (h1▸p.p3) (h1▸p.p4) (by rw[h1];exact e1) e2 h5 (hk _ _ (F.keep0 _ _ hg)) rfl
  .rw[dv_of hi]at hl h;refine calls_intro F.G F.tip (dfl:=[]) (dv:=[]) (mkEntry h1 h2 h3 h4 (ent_all _) (free_all _ hf) (fun s vals hk hl=>?_) (fun h I n=>.nil)) hl h;rw[yS];exact bindP h1 (h5.trans (df_of hi)) (ent_all f) s vals (by simpa using hl)
set_option tactic.hygienic true in theorem ns_none(X:K.In h){x:Str}(e:nsIn K a x=some none):h.nsMap a x=none:=by
 delta nsIn at e;cases ho:K.lookup a with|none=>rw[ho]at e;exact ns e|some ob=>
  rw[ho]at e;obtain⟨c,d,y,sl⟩:=ob;cases y with
  |dict es n=>
   cases hf:es.toList.find? (·.key.isStr x)with
   |some v=>
    dsimp only at e;rw[hf]at e;cases e|none=>
    unfold Heap.nsMap;rw[X _ _ ho];show nsFind es x=none;unfold nsFind findBy;rw[<-Array.find?_toList,hf];rfl
  |_=>exact ns e
theorem fn_of{o:Obj}(X:K.In h)(k:keepIn K (.ref a)=true)(e:h.get? a=some o)(hd:o.data=.func fd):fnIn K a=true:=by
 delta fnIn;delta keepIn at k;dsimp only at k;cases ho:K.lookup a with|none=>rw[ho]at k;exact ff k|some ob=>
  cases(X _ _ ho).symm.trans e;obtain⟨c,d,y,sl⟩:=o;cases hd;rfl
noncomputable def st0:Stmt:=(fBody (astOf .s_init)).headD (.Pass default)
theorem st0_cons:fBody (astOf .s_init)=st0::stmtsOf .s_init:=by
 have :(fBody (astOf .s_init)).isEmpty=false:=by decide+kernel
 unfold st0 stmtsOf;revert this;generalize fBody (astOf .s_init)=l;cases l<;>simp
noncomputable def pSup(p:List Nat):Pos:=(nav p (.ns st0)).pos
theorem st0_sup:∃p0 p1 p2 p3 p4 p5,st0=.Expr (.Call (.Attribute (.Call (.Name "super" p0) [] [] p1) "__init__" p2) [.Name "hook" p3] [] p4) p5/\(p2.endLine==p4.line)=true:=⟨pSup [0,0,0,0],pSup [0,0,0],pSup [0,0],pSup [0,1],pSup [0],pSup [],by kernel_rfl,by decide+kernel⟩
theorem sinit_names:namesOf (astOf .s_init)=[("self":Str),("proof":Str),("hook":Str)]:=by decide+kernel
noncomputable def supScOk(sc:Scope):Bool:=[sc.names.lookup ("super":Str)==some .globalImplicit,sc.names.lookup ("__class__":Str)==some .free,sc.names.all (fun x=>!(x.2==.cell)&&(!(x.2==.free)||decide (x.1="__class__"))),sc.names.lookup ("self":Str)==some .local,sc.names.lookup ("proof":Str)==some .local,sc.names.lookup ("hook":Str)==some .local].all id
theorem sinit_sc:supScOk (fScope (astOf .s_init))=true:=by decide+kernel
theorem okS1_of(e:okS1 o=true):∃c d s,o=some ⟨c,d,.cell (some (.ref 563)),s⟩:=by
 cases o with|none=>exact ff e|some o=>
  obtain⟨c,d,x,sl⟩:=o;cases x with|cell v=>exact(refIn_of e).elim fun a h=>by cases h.1;cases yG.mp h.2;exact⟨_,_,_,rfl⟩|_=>exact ff e
theorem okS3_of{l:List Value}(e:okS3 l=true):∃t,l[2]?=some (.str "/claim/cut.py" t):=by
 cases l with|nil=>exact ff e|cons a l=>cases l with|nil=>exact ff e|cons b l=>cases l with|nil=>exact ff e|cons v l=>exact(svIs_of e).elim fun t h=>⟨t,zG some h⟩
theorem okS2_of(e:okS2 o=true):∃c d vs s f t,o=some ⟨c,d,.fields vs,s⟩/\vs[2]?=some (.str f t)/\f="/claim/cut.py":=by
 cases o with|none=>exact ff e|some o=>
  obtain⟨c,d,x,sl⟩:=o;cases x with|fields vs=>exact(okS3_of e).elim fun t h=>⟨_,_,vs,_,_,t,rfl,Array.getElem?_toList.symm.trans h,rfl⟩|_=>exact ff e
set_option tactic.hygienic true in theorem Full.sup(F:Full B h0):SuperAt B (faA .s_init) (B.fd .s_init) (namesOf (astOf .s_init)) st0 (stmtsOf .s_init) 563 398 409:=by
 have hv:=want_fn F.obs .s_init;rw[<-F.fd]at hv;have ok:=want_ok F.obs;have h1:(B.fd .s_init).params=fParams (astOf .s_init):=zG (fun x=>x.1) hv;have h3:(B.fd .s_init).scope=fScope (astOf .s_init):=zG (fun x=>x.2.2.1) hv;have sc:=sinit_sc;rw[<-h3]at sc;have p:=ent_p (ent_all .s_init);have o13:=alI ok 12 rfl;rw[<-F.K]at o13;have c3:=fun x hx=>yL.mp (alI sc 2 rfl) x hx;have hb:(B.fd .s_init).body=FuncBody.stmts (fBody (astOf .s_init)):=zG (fun x=>x.2.1) hv;refine⟨hb.trans (zG FuncBody.stmts st0_cons),st0_sup,zG (fun x=>x.2.2.2.2.2.1) hv,sinit_names,fun x hx=>?_,fun x hx q=>?_,?_,alE sc 0 rfl,alE sc 1 rfl,fun x hx q=>?_,?_,?_,?_,alI o13 7 rfl,?_,?_,alE o13 4 rfl,?_,?_,?_,?_,?_⟩
 .rw[sinit_names]at hx;exact(zL.mp hx).elim (fun e=>e▸alE sc 3 rfl) fun hx=>(zL.mp hx).elim (fun e=>e▸alE sc 4 rfl) fun hx=>zD.mp hx▸alE sc 5 rfl
 .have :=and_l (c3 x hx);rw[q]at this;exact ff this
 .rw[h1,p.p1,List.nil_append];have :=sinit_names;unfold namesOf at this;revert this;generalize(fParams (astOf .s_init)).args=l;intro e;cases l with|nil=>cases e|cons a r=>simp only[List.map_cons,List.cons.injEq]at e;exact⟨a,rfl,e.1⟩
 .have :=and_r (c3 x hx);rw[q]at this;exact zW this
 .rw[F.fd];exact yG.mp (alI ok 15 rfl)
 .obtain⟨ccl,cdd,vs,ccs,f,u,hl,hv',hf⟩:=okS2_of (alI o13 6 rfl);exact⟨ccl,cdd,vs,ccs,f,u,hl,hv',by rw[F.prog,hf];decide+kernel⟩
 .exact okS1_of (alI o13 5 rfl)
 .rw[F.ca];exact alE o13 2 rfl
 .rw[F.mg];exact ns_none (frg_in h0) (F.K▸alE o13 3 rfl)
 .rw[F.prog];decide+kernel
 .first|rfl|decide+kernel
 .rw[F.ca,F.fa];exact alE o13 0 rfl
 .rw[F.fa];exact alE o13 1 rfl
 .have k:=F.G.keepF .t_init;refine xea (F.G.fo .t_init) fun o a b=>?_;exact fn_of B.inK k a b
theorem Full.init(F:Full B h0){t:Tag}{at_:At->Option Val}(e:S.H t=some (n,.inst .search at_)){x1 x2:Val}(k:Nat)(h:Calls B d .t_init [.loc t n,x2] S fun _ S1=>wpSts (WEd B d) body_s_init ([some (.loc t n),some x1,some x2]++List.replicate k none) S1 (retQ Q)):Calls B (d+1) .s_init [.loc t n,x1,x2] S Q:=by
 have hv:=want_fn F.obs .s_init;rw[<-F.fd]at hv;have h1:(B.fd .s_init).params=fParams (astOf .s_init):=zG (fun x=>x.1) hv;have h3:(B.fd .s_init).scope=fScope (astOf .s_init):=zG (fun x=>x.2.2.1) hv;have h5:(B.fd .s_init).defaults=.none:=zG (fun x=>x.2.2.2.2.2.2.1) hv;have p:=ent_p (ent_all .s_init);have FA:=FnAt.of F.G .s_init;have U:=F.sup;rw[<-F.fa]at U;exact callsS_intro F.G F.tip FA U (fun s vals hk hl=>bindP h1 h5 (ent_all .s_init) s vals hl) (h3▸p.chk) p.inj p.idx (h3▸p.co) (h3▸p.gen) (h3▸p.kind) e h
structure Sys where
 C:Nat->Fn->List Val->AS->VQ->Prop
 scrA:Addr
 scr:List Int
 len:scr.length<=63
 up:∀{d d' f vs S Q},C d f vs S Q->d<=d'->C d' f vs S Q
 mono:∀{d f vs S}{Q Q':VQ},C d f vs S Q->(∀x S',Q x S'->Q' x S')->C d f vs S Q'
 call:∀{d:Nat}{f:Fn}{vs:List Val}{S:AS}{Q:VQ}(k:Nat),f≠.s_init->vs.length+(dvOf f).length=(namesOf (astOf f)).length->wpSts ⟨C d,scrA,scr⟩ (bodyOf f) ((vs++dvOf f).map some++List.replicate k none) S (retQ Q)->C (d+1) f vs S Q
 init:∀{d:Nat}{S:AS}{t:Tag}{n:Nat}{at_:At->Option Val}{x1 x2:Val}{Q:VQ}(k:Nat),S.H t=some (n,.inst .search at_)->(C d .t_init [.loc t n,x2] S fun _ S1=>wpSts ⟨C d,scrA,scr⟩ body_s_init ([some (.loc t n),some x1,some x2]++List.replicate k none) S1 (retQ Q))->C (d+1) .s_init [.loc t n,x1,x2] S Q
noncomputable def Sys.E(Y:Sys)(d:Nat):WE:=⟨Y.C d,Y.scrA,Y.scr⟩
noncomputable def Full.sys(F:Full B h0)(hl:B.scr.length<=63):Sys where
 C:=Calls B;scrA:=B.scrA;scr:=B.scr;len:=hl;up:=fun h l=>h.up l;mono:=fun h l=>h.mono l;call:=fun k hf hl h=>F.call hf k hl h;init:=fun k e h=>F.init e k h
theorem free_law:noFree (stAt 36)=true:=by decide+kernel
theorem law_names:(namesOf (stAt 36)).length=1:=by decide+kernel
theorem Full.lawCall(F:Full B h0){v:Val}(k:Nat)(h:wpSts (WEd B d) body_law (some v::List.replicate k none) S (retQ Q)):CallsAt B (d+1) 781 [v] S Q:=by
 have hv:=want_law F.obs;have h1:(fdAt h0 781).params=fParams (stAt 36):=zG (fun x=>x.1) hv;have h2:(fdAt h0 781).body=.stmts (fBody (stAt 36)):=zG (fun x=>x.2.1) hv;have h3:(fdAt h0 781).scope=fScope (stAt 36):=zG (fun x=>x.2.2.1) hv;have h4:(fdAt h0 781).closure=[]:=zG (fun x=>x.2.2.2.2.2.1) hv;have h5:(fdAt h0 781).defaults=.none:=zG (fun x=>x.2.2.2.2.2.2.1) hv;refine callsAt_intro F.G F.tip F.law (dfl:=[]) (dv:=[]) (mkEntry h1 h2 h3 h4 ent_law free_law (fun s vals hk hl=>?_) (fun h I n=>.nil)) (by rw[law_names];rfl) h;rw[yS];exact bindP h1 h5 ent_law s vals (by simpa using hl)
set_option maxHeartbeats 4000000 in theorem law_of_spec(d k:Nat)(hd:d<=50)(spec:∀Y:Sys,wpSts (Y.E d) body_law (some (.raw (.ref Y.scrA))::List.replicate k none) ⟨fun _=>none,0⟩ (retQ fun x _=>x=.bool true)):PySem.Challenge.rw_qz0040_02.Holds:=by
 refine law_of_walk ?_;intro w s₀ s₁ mg mb G Y fa o pm cd doc dV kV ho hd' hcd hD hmg hg args vals as hpre hlay hrd hwl hlo;have G0:=G;refine Ground.open G ?_;intro T B D TE TW;wrow_args hpre hlay hrd hwl hlo;rename Heap.IsList _ _ _=>hL;rename IntsAre _ _=>hI;rename¬_<_=>hcn;refine xe2a6 (mkBase G0 Y hL hI (by simp at hcn;exact lA 0x736f33254020006f33200 tT hcn)) fun K h0 e1 e2 e3 e4 e5 e6 F=>?_;have hlaw:fa=781:=by
  have h1:h0.nsMap mainGlobals "law"=some (.ref 781):=alE (want_ok F.obs) 13 rfl;rw[<-F.mg,e6]at h1;have h2:mg "law"=some (.ref fa):=hmg;rw[h2]at h1;clear ho hmg;cases h1;rfl
 clear ho hmg;subst hlaw;have hS:SR K s₁ ⟨fun _=>none,0⟩ fun _ _=>⟨0,0⟩:=⟨fun b o e=>(e2 b).symm.trans e,fun _ _ _ e=>(nomatch e),fun _ _ _ e=>(nomatch e),fun _ _ _ _ _ _ e=>(nomatch e),fun _ _ _ e=>(nomatch e),hg,e3.symm⟩;have hl:=F.lawCall (d:=d) (v:=.raw (.ref K.scrA)) (S:=⟨fun _=>none,0⟩) (Q:=fun x _=>x=.bool true) k (spec (F.sys (by rw[e5];simp at hcn;exact lA 0x736f33254020006f33200 tT hcn)));have hl:=hl callerA s₁ _ [.ref K.scrA] ⟨by show 301+10*(d+1)<=900;exact lA 0x78a8a05233200064383320414a2041200d32312 tT hd,by show _+100*(d+1)<=9000;(show 4+100*(d+1)<=9000);exact lA 0x7e4e40523320006832333220414436204120042 tT hd,rfl⟩ hS (.cons (.raw _) .nil);rw[F.prog,e1,e4]at hl;refine wpAny_call (codeAny_mono hl ?_);rintro r s'⟨v,x,S',I',rfl,rfl,hS',hE,hv⟩;cases hv;have kp:∀b o,s₁.heap.get? b=some o->s'.heap.get? b=some o:=fun b o e=>hS'.keep b o ((e2 b).trans e);refine GoodW.toG ⟨.inl ⟨.bool true,.bool true,[],rfl,?_,.bool true,?_,unshared_nil⟩,kp,hS'.os.trans e3,hS'.gens⟩;.exact raisesW_false (by wrow_none_raised)
 .wrow_post
end
section
open PySem PySem.W
variable(Y:Sys){A:AF}{nc:NC}{d k:Nat}{D:CT->Prop}{μ:Mu}{S S':AS}{Q:VQ}{s:Int}{e:X}{Z:CT->Prop}{g:Gh}{p:P}{j:J}{l:List (List Int)}{n:Nat}{tr:List Int}{c:Cls}{v:Nat}{E:WE}{i:Nat}{x:CT}{N:Nat}{t:Tag}{a:At}{b:Int}{o:HObj}{cells:List Int}{K:AS->Prop}{S0:AS}{n0 m h:Nat}{w:Int}{p':P}{gone:Int}{kvs:List (Int×Val)}{H L W0:List Int}{a1 a2 a3:Nat}{f:Fn}{hat:At->Option Val}{kept:List Int}{p1:P}{done:List (List Int)}{y:Val}{M:MF}{own:CT}{v9:Nat}{α:Type}{lit:Int}{st:PS}{v3:Nat}{at_:At->Option Val}{ds:List PyData}{l1 l2:List (List Int)}{u:Tag}{v4:Nat}{c':List Int}{os:Nat->List (Option HObj)}{prs:List (Int×Nat)}{x5:Option Val}{ys:List Val}{S'':AS}{t':Tag}{turn:Val->Mu->AS->SQ->Prop}{v':Nat}{x12 x13:Option Val}{all:List Int}{inner:Val->List Val->AS->(List Val->AS->Prop)->Prop}{key:Val->Int}{lot:List (List Int)}{n1:Nat}{pairs:Val}{ps:List PS}{xs:List Val}{as:List Int}{b':Nat}{bb:Bool}{cls:List (List Int)}{es:Xs}{first:Nat}{kept' kept1 kept2:List Int}{nk:Nat}{one:List Int}{rest:Sts}{x1:Option Val}
noncomputable abbrev iL(l:List Int):List Val:=l.map .int
noncomputable def oval:Option Int->Val|none=>.none|some i=>.int i
inductive PS where|inp(c:List Int)(n:Int)|res(c pr vs:List Int)
noncomputable def PS.ctorIdx(x:PS):Nat:=x.casesOn (fun _ _=>0) fun _ _ _=>1
noncomputable def PS.cl:PS->List Int|.inp c _=>c|.res c _ _=>c
noncomputable def PS.pr:PS->List Int|.inp _ _=>[]|.res _ pr _=>pr
noncomputable def PS.val:PS->Val|.inp c n=>.tup [.str "input",.tup (iL c),.tup [],.int n]|.res c pr vs=>.tup [.str "resolve",.tup (iL c),.tup (iL pr),.tup (iL vs)]
structure P where
 asg:List Int
 rea:List Int
 tr:List Int
 st:List Int
 ws:List (List Int)
 hd:Int
 cl:List (List Int)
 sp:List Int
 us:List (Option Int)
 rt:Int
 ps:List PS
 sn:Nat
 hA:List Int
 hH:List Int
 hP:List Int
structure J where
 lev:List Int
 spo:List Int
 pha:List Int
noncomputable def P.sAsg(p:P)(l:List Int):P:={p with asg:=l}
noncomputable def P.sRea(p:P)(l:List Int):P:={p with rea:=l}
noncomputable def P.sTr(p:P)(l:List Int):P:={p with tr:=l}
noncomputable def P.sSt(p:P)(l:List Int):P:={p with st:=l}
noncomputable def P.sSp(p:P)(l:List Int):P:={p with sp:=l}
noncomputable def P.sUs(p:P)(l:List (Option Int)):P:={p with us:=l}
noncomputable def P.sPs(p:P)(l:List PS):P:={p with ps:=l}
noncomputable def J.sLev(j:J)(l:List Int):J:={j with lev:=l}
noncomputable def J.sSpo(j:J)(l:List Int):J:={j with spo:=l}
noncomputable def J.sPha(j:J)(l:List Int):J:={j with pha:=l}
noncomputable def P.sHd(p:P)(i:Int):P:={p with hd:=i}
noncomputable def P.sRt(p:P)(i:Int):P:={p with rt:=i}
noncomputable def P.sCl(p:P)(l:List (List Int)):P:={p with cl:=l}
noncomputable def P.sWs(p:P)(l:List (List Int)):P:={p with ws:=l}
structure Gh where
 v:CT->Nat
 b:Nat->Bool
noncomputable def wt(g:Gh)(p:Nat):CT:=.watch (2*p+(g.b p).toNat)
noncomputable abbrev lo(k:Nat)(g:Gh)(x:CT):Val:=.loc (.core k x) (g.v x)
noncomputable def attrs(k:Nat)(g:Gh)(p:P):At->Option Val|.hook=>some .none|.assigns=>some (lo k g .assigns)|.levels=>some (lo k g .levels)|.reasons=>some (lo k g .reasons)|.spots=>some (lo k g .spots)|.phases=>some (lo k g .phases)|.watches=>some (lo k g .watches)|.heap=>some (lo k g .heapO)|.trail=>some (lo k g .trail)|.starts=>some (lo k g .starts)|.head=>some (.int p.hd)|.told=>some (.int 0)|.clauses=>some (lo k g .clauses)|.steps=>some (lo k g .steps)|.droppable=>some (lo k g .drop)|.activities=>some (lo k g .acts)|.learnt_count=>some (.int 0)|.proof=>some (lo k g .proof)|.seen=>some (lo k g .seen)|.unit_steps=>some (lo k g .usteps)|.rooted=>some (.int p.rt)|.is_ok=>some (.bool true)|.empty_step=>some .none|.failed=>some (.tup [])|.failed_at=>some .none|.conflict_limit=>some (.int 0)|.conflicts=>some (.int 0)|.decisions=>some (.int 0)|_=>none
noncomputable def hattrs(k:Nat)(g:Gh):At->Option Val|.limit=>some (.int 1000000000000)|.step=>some (.int 1024)|.activity=>some (lo k g .hAct)|.heap=>some (lo k g .hHeap)|.place=>some (lo k g .hPlace)|_=>none
noncomputable def pattrs(k:Nat)(g:Gh):At->Option Val|.steps=>some (lo k g .psteps)|.named=>some (lo k g .pnamed)|.empty=>some (.int (-1))|_=>none
noncomputable def objs(k:Nat)(g:Gh)(p:P)(j:J)(a:Nat):List (Option HObj):=[some (.inst .search (attrs k g p)),some (.list (iL p.asg)),some (.list (iL j.lev)),some (.list (iL p.rea)),some (.list (iL j.spo)),some (.list (iL j.pha)),some (.list ((List.range p.ws.length).map fun i=>lo k g (wt g i))),if a%2=(g.b (a/2)).toNat then(p.ws[a/2]?).map fun l=>.list (iL l)else none,some (.inst .heap (hattrs k g)),some (.list (iL p.hA)),some (.list (iL p.hH)),some (.list (iL p.hP)),some (.list (iL p.tr)),some (.list (iL p.st)),some (.list ((List.range p.cl.length).map fun i=>lo k g (.clause i))),(p.cl[a]?).map fun l=>.list (iL l),some (.list (iL p.sp)),some (.list (List.replicate p.cl.length (.bool false))),some (.list (List.replicate p.cl.length (.int 0))),some (.list (List.replicate p.sn (.bool false))),some (.list (p.us.map oval)),some (.inst .proof (pattrs k g)),some (.list (p.ps.map PS.val)),some (.list [.int 0])]
noncomputable def CT.arg:CT->Nat|.watch p=>p|.clause i=>i|_=>0
noncomputable def mkCT(n a:Nat):CT:=nt .core [.core,.assigns,.levels,.reasons,.spots,.phases,.watches,.watch a,.heapO,.hAct,.hHeap,.hPlace,.trail,.starts,.clauses,.clause a,.steps,.drop,.acts,.seen,.usteps,.proof,.psteps,.pnamed] n
theorem CT.mk_eq(x:CT):mkCT x.ctorIdx x.arg=x:=by cases x<;>rfl
noncomputable def objOf(k:Nat)(g:Gh)(p:P)(j:J)(x:CT):Option HObj:=nt none (objs k g p j x.arg) x.ctorIdx
def HasX(X:CT->Prop)(S:AS)(k:Nat)(g:Gh)(p:P)(j:J):Prop:=∀x o,¬X x->objOf k g p j x=some o->S.H (.core k x)=some (g.v x,o)
abbrev HasG:=HasX fun _=>False
theorem HasX.at{X:CT->Prop}(h:HasX X S k g p j)(x:CT)(e:objOf k g p j x=some o)(n:¬X x):S.H (.core k x)=some (g.v x,o):=h x o n e
theorem alloc_H(S:AS)(t u:Tag)(o:HObj):(S.alloc t o).H u=if u=t then some (S.n,o)else S.H u:=rfl
noncomputable def plc(l:Int):Int:=if l>0 then 2*l else 1-2*l
theorem mul2(a:Int):IntMulOk 2 a:=.of_left (by decide)
theorem glb1:glbV "UNKNOWN"=some (.int 0):=by unfold glbV;rw[zU rfl]
theorem glb2:glbV "TRUE"=some (.int 1):=by unfold glbV;rw[zN (by decide),zU rfl]
theorem glb3:glbV "FALSE"=some (.int (-1)):=by unfold glbV;rw[zN (by decide),zN (by decide),zU rfl]
theorem glb4:glbV "NO_CLAUSE"=some (.int (-1)):=by unfold glbV;rw[zN (by decide),zN (by decide),zN (by decide),zU rfl]
theorem glb5:glbV "FIRST_STEP"=some (.int 1024):=by unfold glbV;rw[zN (by decide),zN (by decide),zN (by decide),zN (by decide),zU rfl]
theorem put_eq:(S.put t v o).H t=some (v,o):=zU rfl
theorem alloc_eq:(S.alloc t o).H t=some (S.n,o):=zU rfl
theorem put_ne{y:CT}(h:y≠x):(S.put (.core k x) v o).H (.core k y)=S.H (.core k y):=zN fun e=>h (Tag.core.inj e).2
theorem alloc_ne{y:CT}(h:y≠x):(S.alloc (.core k x) o).H (.core k y)=S.H (.core k y):=zN fun e=>h (Tag.core.inj e).2
theorem HasX.put{X:CT->Prop}{j':J}(h:HasX X S k g p j)(x:CT)(e:objOf k g p' j' x=some o)(ne:∀y,y≠x->objOf k g p' j' y=objOf k g p j y):HasX X (S.put (.core k x) (g.v x) o) k g p' j':=fun y o' nX e'=>by
 by_cases q:y=x
 .clear ne;subst q;exact put_eq.trans (zG (fun o=>some (g.v y,o)) (zS (e.symm.trans e')))
 .exact(put_ne q).trans (h y o' nX ((ne y q).symm.trans e'))
theorem nt_set{d o:α}:∀(l:List α)(n i:Nat),(n≠i->nt d (l.set i o) n=nt d l n)/\(Nat.blt i l.length=true->nt d (l.set i o) i=o)|[],_,_=>⟨fun _=>rfl,nofun⟩|_::_,0,0=>⟨fun h=>absurd rfl h,fun _=>rfl⟩|_::l,n+1,0=>⟨fun _=>rfl,fun _=>rfl⟩|_::l,0,i+1=>⟨fun _=>rfl,(nt_set l 0 i).2⟩|_::l,n+1,i+1=>⟨fun h=>(nt_set l n i).1 fun e=>h (zG _ e),(nt_set l 0 i).2⟩
theorem HasX.putL{X:CT->Prop}{j':J}(h:HasX X S k g p j)(x:CT)(hx:∀a,mkCT x.ctorIdx a=x)(hn:Nat.blt x.ctorIdx 24=true)(hs:∀a,objs k g p' j' a=(objs k g p j a).set x.ctorIdx (some o)):HasX X (S.put (.core k x) (g.v x) o) k g p' j':=h.put x ((zG (nt none . _) (hs _)).trans ((nt_set _ 0 _).2 hn)) fun y hy=>(zG (nt none . _) (hs _)).trans ((nt_set _ _ _).1 fun e=>hy (y.mk_eq.symm.trans (e▸hx _)))
theorem HasX.pAsg{X:CT->Prop}(h:HasX X S k g p j)(l:List Int):HasX X (S.put (.core k .assigns) (g.v .assigns) (.list (iL l))) k g (p.sAsg l) j:=h.putL .assigns (fun _=>rfl) rfl fun _=>rfl
theorem HasX.pRea{X:CT->Prop}(h:HasX X S k g p j)(l:List Int):HasX X (S.put (.core k .reasons) (g.v .reasons) (.list (iL l))) k g (p.sRea l) j:=h.putL .reasons (fun _=>rfl) rfl fun _=>rfl
theorem HasX.pTr{X:CT->Prop}(h:HasX X S k g p j)(l:List Int):HasX X (S.put (.core k .trail) (g.v .trail) (.list (iL l))) k g (p.sTr l) j:=h.putL .trail (fun _=>rfl) rfl fun _=>rfl
theorem HasX.pSt{X:CT->Prop}(h:HasX X S k g p j)(l:List Int):HasX X (S.put (.core k .starts) (g.v .starts) (.list (iL l))) k g (p.sSt l) j:=h.putL .starts (fun _=>rfl) rfl fun _=>rfl
theorem HasX.pUs{X:CT->Prop}(h:HasX X S k g p j)(l:List (Option Int)):HasX X (S.put (.core k .usteps) (g.v .usteps) (.list (l.map oval))) k g (p.sUs l) j:=h.putL .usteps (fun _=>rfl) rfl fun _=>rfl
theorem HasX.pPs{X:CT->Prop}(h:HasX X S k g p j)(l:List PS):HasX X (S.put (.core k .psteps) (g.v .psteps) (.list (l.map PS.val))) k g (p.sPs l) j:=h.putL .psteps (fun _=>rfl) rfl fun _=>rfl
theorem HasX.pLev{X:CT->Prop}(h:HasX X S k g p j)(l:List Int):HasX X (S.put (.core k .levels) (g.v .levels) (.list (iL l))) k g p (j.sLev l):=h.putL .levels (fun _=>rfl) rfl fun _=>rfl
theorem HasX.pSpo{X:CT->Prop}(h:HasX X S k g p j)(l:List Int):HasX X (S.put (.core k .spots) (g.v .spots) (.list (iL l))) k g p (j.sSpo l):=h.putL .spots (fun _=>rfl) rfl fun _=>rfl
theorem HasX.pPha{X:CT->Prop}(h:HasX X S k g p j)(l:List Int):HasX X (S.put (.core k .phases) (g.v .phases) (.list (iL l))) k g p (j.sPha l):=h.putL .phases (fun _=>rfl) rfl fun _=>rfl
theorem HasX.putA{X:CT->Prop}(h:HasX X S k g p j){f:At->Option Val}(e:p'={p with hd:=p'.hd,rt:=p'.rt})(hf:∀b,attrs k g p' b=f b):HasX X (S.put (.core k .core) (g.v .core) (.inst .search f)) k g p' j:=by
 cases(funext hf:attrs k g p'=f);exact h.putL .core (fun _=>rfl) rfl fun a=>by rw[e];rfl
theorem HasX.pHd{X:CT->Prop}(h:HasX X S k g p j)(i:Int):HasX X (S.put (.core k .core) (g.v .core) (.inst .search (fun b=>if b=At.head then some (.int i)else attrs k g p b))) k g (p.sHd i) j:=h.putA rfl fun b=>by cases b<;>rfl
theorem HasX.pRt{X:CT->Prop}(h:HasX X S k g p j)(i:Int):HasX X (S.put (.core k .core) (g.v .core) (.inst .search (fun b=>if b=At.rooted then some (.int i)else attrs k g p b))) k g (p.sRt i) j:=h.putA rfl fun b=>by cases b<;>rfl
theorem HasX.pTold{X:CT->Prop}(h:HasX X S k g p j):HasX X (S.put (.core k .core) (g.v .core) (.inst .search (fun b=>if b=At.told then some (.int 0)else attrs k g p b))) k g p j:=h.putA rfl fun b=>by cases b<;>rfl
theorem objs_cl(k:Nat)(g:Gh)(p:P)(j:J)(h:l.length=p.cl.length)(a:Nat):objs k g (p.sCl l) j a=(objs k g p j a).set 15 ((l[a]?).map fun l=>.list (iL l)):=by
 show[_,_,_,_,_,_,_,_,_,_,_,_,_,_,some (HObj.list ((List.range l.length).map fun i=>lo k g (.clause i))),_,_,some (HObj.list (List.replicate l.length (.bool false))),some (HObj.list (List.replicate l.length (.int 0))),_,_,_,_,_]=_;rw[h];rfl
theorem CT.of_idx(h:x.ctorIdx=n):x=mkCT n x.arg:=h▸x.mk_eq.symm
theorem HasX.pCl{X:CT->Prop}(h:HasX X S k g p j)(hi:i<p.cl.length)(l:List Int):HasX X (S.put (.core k (.clause i)) (g.v (.clause i)) (.list (iL l))) k g (p.sCl (p.cl.set i l)) j:=by
 refine h.put (.clause i) (zG (Option.map _) (zP hi)) fun y hy=>?_;show nt none (objs _ _ _ _ _) _=nt none (objs _ _ _ _ _) _;rw[objs_cl k g p j yD];by_cases c:y.ctorIdx=15
 .have e:=CT.of_idx c;rw[c,zK fun q=>hy (e.trans (zG CT.clause q.symm))];rfl
 .exact(nt_set _ _ _).1 c
theorem wt_two(i:Nat)(b:Bool):(2*i+b.toNat)/2=i/\(2*i+b.toNat)%2=b.toNat:=by cases b<;>exact⟨by simp;try omega,by simp;try omega⟩
theorem obj_wt{l:List Int}(h:p.ws[i]?=some l):objOf k g p j (wt g i)=some (.list (iL l)):=by
 show(if(2*i+(g.b i).toNat)%2=(g.b ((2*i+(g.b i).toNat)/2)).toNat then(p.ws[(2*i+(g.b i).toNat)/2]?).map fun l=>HObj.list (iL l)else none)=_;rw[(wt_two _ _).1,(wt_two _ _).2,zU rfl,h];rfl
theorem objs_ws(k:Nat)(g:Gh)(p:P)(j:J)(h:l.length=p.ws.length)(a:Nat):objs k g (p.sWs l) j a=(objs k g p j a).set 7 (if a%2=(g.b (a/2)).toNat then(l[a/2]?).map fun l=>.list (iL l)else none):=by
 show[_,_,_,_,_,_,some (HObj.list ((List.range l.length).map fun i=>lo k g (wt g i))),_,_,_,_,_,_,_,_,_,_,_,_,_,_,_,_,_]=_;rw[h];rfl
variable{l:Nat}
theorem wt_of{q:Nat}(h:q%2=(g.b (q/2)).toNat):CT.watch q=wt g (q/2):=zG CT.watch (h▸(Nat.div_add_mod q 2).symm)
theorem HasX.pW{X:CT->Prop}(h:HasX X S k g p j)(hi:i<p.ws.length)(l:List Int):HasX X (S.put (.core k (wt g i)) (g.v (wt g i)) (.list (iL l))) k g (p.sWs (p.ws.set i l)) j:=by
  refine h.put (wt g i) (obj_wt (zP hi)) fun y hy=>?_;show nt none (objs _ _ _ _ _) _=nt none (objs _ _ _ _ _) _;rw[objs_ws k g p j yD];by_cases c:y.ctorIdx=7
  . have e:=CT.of_idx c;rw[c];show ite _ _ _=ite _ _ _;by_cases hq:y.arg%2=(g.b (y.arg/2)).toNat;.rw[zK fun q=>hy (e.trans ((wt_of hq).trans (zG (wt g) q.symm)))]
    .rw[zN hq,zN hq]
  .exact(nt_set _ _ _).1 c
theorem HasX.dead{X:CT->Prop}(h:HasX X S k g p j)(hx:objOf k g p j x=none)(e:∀y,y≠x->S'.H (.core k y)=S.H (.core k y)):HasX X S' k g p j:=by
 intro y o nX e';by_cases q:y=x;.clear e;subst q;rw[hx]at e';cases e'
 .rw[e y q];exact h y o nX e'
def Dead(g:Gh)(x:CT):Prop:=∃q,x=.watch q/\q%2≠(g.b (q/2)).toNat
noncomputable def other(g:Gh)(i:Nat):CT:=.watch (2*i+(!g.b i).toNat)
theorem dead_other(g:Gh)(i:Nat):Dead g (other g i):=by
 refine⟨_,rfl,?_⟩;rw[(wt_two _ _).1,(wt_two _ _).2];cases g.b i<;>decide
theorem dead_none(h:Dead g x):objOf k g p j x=none:=by
 obtain⟨q,rfl,h⟩:=h;exact zN h
theorem not_dead_wt(g:Gh)(i:Nat):¬Dead g (wt g i):=by
 intro q_r;refine xea q_r fun q e h=>?_;cases CT.watch.inj e;rw[(wt_two _ _).1,(wt_two _ _).2]at h;exact h rfl
noncomputable def flipG(g:Gh)(i n:Nat):Gh:=⟨fun x=>if x=other g i then n else g.v x,fun a=>if a=i then !g.b a else g.b a⟩
theorem range_set{f f':Nat->α}{v:α}(h1:f' i=v)(h2:∀a,a≠i->f' a=f a):((List.range n).map f).set i v=(List.range n).map f':=by
 refine List.ext_getElem (by simp) fun a _ _=>?_;rw[List.getElem_set,List.getElem_map,List.getElem_map,List.getElem_range];by_cases c:i=a;.rw[zU c,<-c,h1]
 .rw[zN c,h2 a fun e=>c e.symm]
theorem HasX.flip{X:CT->Prop}(h:HasX X S k g p j)(hi:i<p.ws.length){l:List Int}(hX:∀x,¬X x)(hk:S.H (.core k (other g i))=some (n,.list (iL l))):HasX X (S.put (.core k .watches) (g.v .watches) (.list (((List.range p.ws.length).map fun i=>lo k g (wt g i)).set i (.loc (.core k (other g i)) n)))) k (flipG g i n) (p.sWs (p.ws.set i l)) j:=by
  intro y o nX e;change nt none (((objs k g p j y.arg).set 6 (some (HObj.list ((List.range (p.ws.set i l).length).map fun a=>lo k (flipG g i n) (wt (flipG g i n) a))))).set 7 (if y.arg%2=(if y.arg/2=i then !g.b (y.arg/2)else g.b (y.arg/2)).toNat then((p.ws.set i l)[y.arg/2]?).map fun l=>HObj.list (iL l)else none)) y.ctorIdx=some o at e;by_cases c7:y.ctorIdx=7
  . have ey:y=.watch y.arg:=CT.of_idx c7;rw[c7]at e;generalize y.arg=q at ey e;subst ey;change(if q%2=(if q/2=i then !g.b (q/2)else g.b (q/2)).toNat then((p.ws.set i l)[q/2]?).map fun l=>HObj.list (iL l)else none)=some o at e;refine(put_ne (x:=.watches) (y:=.watch q) (nD rfl)).trans ?_;by_cases hq:q/2=i
    . rw[zU hq,hq,zP hi]at e;by_cases h2:q%2=(!g.b i).toNat
      .rw[zU h2]at e;have hq2:CT.watch q=other g i:=zG CT.watch (h2▸hq▸(Nat.div_add_mod q 2).symm);cases zS e;exact(hq2▸hk).trans (zG (fun m=>some (m,_)) (zU hq2).symm)
      .rw[zN h2]at e;cases e
    .rw[zN hq,zK (Ne.symm hq)]at e;exact(h (.watch q) o nX e).trans (zG (fun m=>some (m,o)) (zN fun ee=>hq ((zG (./2) (CT.watch.inj ee)).trans (wt_two _ _).1)).symm)
  . rw[(nt_set _ _ _).1 c7]at e;by_cases c6:y.ctorIdx=6
    . clear nX;obtain rfl:y=.watches:=CT.of_idx c6;refine put_eq.trans (zG (fun o=>some (g.v .watches,o)) (Eq.trans (zG HObj.list ?_) (zS e)));show _=(List.range (p.ws.set i l).length).map fun a=>lo k (flipG g i n) (wt (flipG g i n) a);rw[yD];refine range_set ?_ fun a c=>?_
      .show Val.loc (.core k (.watch (2*i+(if i=i then !g.b i else g.b i).toNat))) (if CT.watch (2*i+(if i=i then !g.b i else g.b i).toNat)=other g i then n else _)=_;rw[zU rfl];exact zG _ (zU rfl)
      .show Val.loc (.core k (.watch (2*a+(if a=i then !g.b a else g.b a).toNat))) (if CT.watch (2*a+(if a=i then !g.b a else g.b a).toNat)=other g i then n else g.v (.watch (2*a+(if a=i then !g.b a else g.b a).toNat)))=_;rw[zN c];exact zG _ (zN fun ea=>not_dead_wt g a ((ea:wt g a=_)▸dead_other g i))
    .exact(put_ne fun q=>c6 (zG CT.ctorIdx q)).trans ((h y o nX (((nt_set _ _ _).1 c6).symm.trans e)).trans (zG (fun m=>some (m,o)) (zN fun ee:y=other g i=>c7 (zG CT.ctorIdx ee)).symm))
def Fr(D:CT->Prop)(k:Nat)(l:Nat)(S S':AS):Prop:=∀t,(match t with|.core k' x=>k'≠k\/D x|.tmp i _=>l<=i|.law _=>True)->S'.H t=S.H t
abbrev D0:CT->Prop:=fun _=>False
def FrT(l:Nat)(S S':AS):Prop:=∀t,(match t with|.tmp i _=>l<=i|_=>True)->S'.H t=S.H t
theorem Fr.refl:Fr D k l S S:=fun _ _=>rfl
theorem FrT.refl:FrT l S S:=fun _ _=>rfl
theorem Fr.trans(a:Fr D k l S S')(b:Fr D k l S' S''):Fr D k l S S'':=fun t h=>(b t h).trans (a t h)
theorem FrT.trans(a:FrT l S S')(b:FrT l S' S''):FrT l S S'':=fun t h=>(b t h).trans (a t h)
theorem Fr.up{D':CT->Prop}{l':Nat}(a:Fr D k l S S')(h:l<=l')(hD:∀x,D' x->D x):Fr D' k l' S S':=fun t ht=>a t (by
 cases t with|core k' x=>exact ht.imp id (hD x)|tmp i n=>exact zE h ht|law i=>trivial)
theorem FrT.up{l':Nat}(a:FrT l S S')(h:l<=l'):FrT l' S S':=fun t ht=>a t (by cases t with|tmp i n=>exact zE h ht|_=>trivial)
theorem FrT.fr(a:FrT l S S'):Fr D k l S S':=fun t ht=>a t (by cases t with|tmp i n=>exact ht|_=>trivial)
theorem Fr.put(a:Fr D k l S S')(hx:¬D x)(v:Nat)(o:HObj):Fr D k l S (S'.put (.core k x) v o):=fun t ht=>by
 exact(zN fun e=>by cases e;exact ht.elim (fun z=>z rfl) hx).trans (a t ht)
theorem Fr.alloc(a:Fr D k l S S')(hx:¬D x)(o:HObj):Fr D k l S (S'.alloc (.core k x) o):=fun t ht=>by
 exact(zN fun e=>by cases e;exact ht.elim (fun z=>z rfl) hx).trans (a t ht)
variable{x:Val}
theorem FrT.put(a:FrT l S S')(h:i<l)(v:Nat)(o:HObj):FrT l S (S'.put (.tmp i n) v o):=fun t ht=>by
 exact(zN fun e=>by cases e;exact Nat.not_le_of_lt h ht).trans (a t ht)
theorem FrT.alloc(a:FrT l S S')(h:i<l)(o:HObj):FrT l S (S'.alloc (.tmp i n) o):=fun t ht=>by
 exact(zN fun e=>by cases e;exact Nat.not_le_of_lt h ht).trans (a t ht)
variable{i:Int}
theorem HasX.fr{X:CT->Prop}{k':Nat}(h:HasX X S k g p j)(a:Fr D k' l S S')(n:k≠k'):HasX X S' k g p j:=fun x o nX e=>(a (.core k x) (.inl n)).trans (h x o nX e)
theorem HasX.frT{X:CT->Prop}(h:HasX X S k g p j)(a:FrT l S S'):HasX X S' k g p j:=fun x o nX e=>(a _ trivial).trans (h x o nX e)
variable{l:List Val}
theorem isInst_of(h:S.H t=some (n,.inst c at_))(hm:methOf c f=true)(ha:f=.t_place->at_ .place=none):isInst (.loc t n) f S:=by
 exact⟨rfl,h,hm,fun a e=>(Fn.at_eq e).2▸ha (Fn.at_eq e).1⟩
theorem HasX.inst{X:CT->Prop}(h:HasX X S k g p j)(n:¬X .core)(hm:methOf .search f=true):isInst (lo k g .core) f S:=isInst_of (h.at .core rfl n) hm fun _=>rfl
theorem HasX.instP{X:CT->Prop}(h:HasX X S k g p j)(n:¬X .proof)(hm:methOf .proof f=true):isInst (lo k g .proof) f S:=isInst_of (h.at .proof rfl n) hm fun _=>rfl
theorem HasX.instH{X:CT->Prop}(h:HasX X S k g p j)(n:¬X .heapO)(hm:methOf .heap f=true):isInst (lo k g .heapO) f S:=isInst_of (h.at .heapO rfl n) hm fun e=>by subst e;cases hm
theorem HasX.get{X:CT->Prop}(h:HasX X S k g p j)(n:¬X .core)(e:attrs k g p a=some x)(q:Q x S):attrGet (lo k g .core) a S Q:=.mk rfl (h.at .core rfl n) (okAt_ne fun c=>by subst c;cases e) e q
theorem idx_nat(h:n<m):idxOf (n:Int) m=some n:=by
 unfold idxOf;rw[zU (by exact lA 0x73654020002 tT),zU (by exact lB 0x716100046540210540200 tT h)];simp
theorem listAt_loc(h:S.H t=some (v,.list l)):S.listAt (.loc t v)=some l:=by simp[AS.listAt,h]
theorem get_val(h:S.H t=some (v,.list l))(hl:l.length<=999)(hi:i=n)(hn:l[n]?=some y)(q:Q y S):itemGet (.loc t v) (.int i) S Q:=by
 have hlt:=(zM.mp hn).1;subst hi;exact .list (listAt_loc h) rfl (show n<1000 from Nat.lt_of_lt_of_le hlt (Nat.le_succ_of_le hl)) (Nat.le_succ_of_le hl) (idx_nat hlt) hn q
theorem get_int{l:List Int}{y:Int}(h:S.H t=some (v,.list (iL l)))(hl:l.length<=999)(hi:i=n)(hn:l[n]?=some y)(q:Q (.int y) S):itemGet (.loc t v) (.int i) S Q:=get_val h (by rw[zA];exact hl) hi (by rw[iL,zX,hn];rfl) q
theorem get_neg1(h:S.H t=some (v,.list l))(hl:l.length<=999)(hn:l.getLast?=some y)(q:Q y S):itemGet (.loc t v) (.int (-1)) S Q:=by
 have hlt:0<l.length:=by
  clear h hl;cases l with|nil=>cases hn|cons a r=>exact Nat.succ_pos _
 have e:idxOf (-1) l.length=some (l.length-1):=by
  unfold idxOf;rw[zN (by decide),zU (by exact lA 0x7160002360454020044021202 tT hlt),show((-1:Int)+l.length).toNat=l.length-1 by exact lC 0x780812520041210818005041210208180550454022044021254020080813554020004540220440212261000 tT (Int.self_le_toNat _) (Int.toNat_of_nonneg (lA 0x7160002360454020044021202 tT hlt)) (le_sub_ad _ _) (yC (lA 0x7160002060012 tT hlt))]
 exact .list (listAt_loc h) rfl (by decide) (Nat.le_succ_of_le hl) e (List.getLast?_eq_getElem?▸hn) q
theorem set_val(h:S.H t=some (v,.list l))(hl:l.length<=999)(hi:i=n)(hn:n<l.length)(q:K (S.put t v (.list (l.set n y)))):itemSet (.loc t v) (.int i) y S K:=by
 subst hi;exact .list rfl rfl h (Nat.le_succ_of_le hl) (Int.natCast_nonneg _) (Int.ofNat_lt.mpr hn) q
theorem set_int{l:List Int}{y:Int}(h:S.H t=some (v,.list (iL l)))(hl:l.length<=999)(hi:i=n)(hn:n<l.length)(q:K (S.put t v (.list (iL (l.set n y))))):itemSet (.loc t v) (.int i) (.int y) S K:=set_val h (by rw[zA];exact hl) hi (by rw[zA];exact hn) (by rw[iL,List.map_set]at q;exact q)
variable{i:Nat}
theorem set_attr(h:S.H t=some (v,.inst c at_))(q:K (S.put t v (.inst c fun b=>if b=a then some y else at_ b))):attrSet (.loc t v) a y S K:=by
 exact .mk rfl h q
variable{a:Int}{c:List Int}
theorem forO_cons{chk:AS->Prop}{r:List Val}{Q:SQ}(h:chk S)(ht:∀K:SQ,(∀μ S,forO turn chk r μ S Q->K .next μ S)->(∀μ S,forO turn chk r μ S Q->K .cont μ S)->(∀μ S,Q .next μ S->K .brk μ S)->(∀v μ S,Q (.ret v) μ S->K (.ret v) μ S)->turn x μ S K):forO turn chk (x::r) μ S Q:=by
 exact And.intro h (ht _ (fun _ _ h=>h) (fun _ _ h=>h) (fun _ _ h=>h) fun _ _ _ h=>h)
variable{x:Int}
theorem forO_nil{chk:AS->Prop}{Q:SQ}(h:chk S)(q:Q .next μ S):forO turn chk [] μ S Q:=by
 exact And.intro h q
theorem whO_step{c:Mu->AS->(Bool->AS->Prop)->Prop}{b:Mu->AS->SQ->Prop}{Q:SQ}(h:∀T:Bool->AS->Prop,(∀S,Q .next μ S->T false S)->(∀S,(∀K:SQ,(∀μ S,whO c b n μ S Q->K .next μ S)->(∀μ S,whO c b n μ S Q->K .cont μ S)->(∀μ S,Q .next μ S->K .brk μ S)->(∀v μ S,Q (.ret v) μ S->K (.ret v) μ S)->b μ S K)->T true S)->c μ S T):whO c b (n+1) μ S Q:=by
 refine h _ (fun _ q=>q) fun S hb=>hb _ (fun _ _ h=>h) (fun _ _ h=>h) (fun _ _ h=>h) fun _ _ _ h=>h
theorem seqOf_loc(h:S.H t=some (v,.list l)):S.seqOf (.loc t v)=some l:=by simp[AS.seqOf,AS.listAt,h]
noncomputable def arity:Fn->Nat|.place_of|.order_key|.clause_of|.is_always_true|.order_of|.tidy|.is_tidy|.lclause|.world|.lcore=>1|.resolve_on|.follows=>3|.draw|.taken|.rested|.column=>2|.right=>4|.h_init=>2|.h_many=>1|.h_held=>2|.h_before=>3|.h_grow=>2|.h_put=>3|.h_rise=>2|.h_push=>2|.t_init=>2|.t_grow=>1|.t_value=>2|.t_depth=>1|.t_store=>4|.t_watch=>2|.t_height=>2|.t_byh=>2|.t_place=>2|.t_enq=>3|.t_newlev=>1|.t_cancel=>2|.t_prop=>1|.t_visit=>2|.t_moved=>3|.s_init=>3|.s_newvar=>1|.s_add=>3|.s_log=>4|.s_unit=>2|.s_prop=>1|.p_init=>1|.p_size=>1|.p_clause=>2|.p_add=>5|.p_chain=>3
theorem arity_eq(f:Fn):(namesOf (astOf f)).length=arity f:=by cases f<;>decide+kernel
theorem Sys.run(Y:Sys){vs:List Val}(k:Nat)(he:1<=d)(hf:f≠.s_init)(hl:vs.length+(dvOf f).length=arity f)(h:wpSts (Y.E (d-1)) (bodyOf f) ((vs++dvOf f).map some++List.replicate k none) S (retQ Q)):Y.C d f vs S Q:=Y.up (Y.call k hf (hl.trans (arity_eq f).symm) h) (by exact lB 0x726100412000610041200 tT (yC (lA 0x7060012060012 tT he)))
theorem getD_some{l:List α}{d:α}(h:n<l.length):l[n]?=some (l.getD n d):=by
 rw[zO,zH h];rfl
theorem alloc_nu(h:u≠t):(S.alloc t o).H u=S.H u:=zN h
theorem put_nu(h:u≠t):(S.put t v o).H u=S.H u:=zN h
noncomputable def pv(a:List Int)(l:Int):Int:=if l>0 then a.getD l.natAbs 0 else-(a.getD l.natAbs 0)
noncomputable def sg(l:Int):Int:=if l>0 then 1 else-1
theorem r_lt(r:Bool)(hr:decide (a<b)=r)(q:Q (.bool r) S):ordOp .lt (.int a) (.int b) S Q:=.mk rfl rfl (zG some hr) q
theorem r_gt(r:Bool)(hr:decide (a>b)=r)(q:Q (.bool r) S):ordOp .gt (.int a) (.int b) S Q:=.mk rfl rfl (zG some hr) q
theorem r_le(r:Bool)(hr:decide (a<=b)=r)(q:Q (.bool r) S):ordOp .le (.int a) (.int b) S Q:=.mk rfl rfl (zG some hr) q
theorem r_ge(r:Bool)(hr:decide (a≥b)=r)(q:Q (.bool r) S):ordOp .ge (.int a) (.int b) S Q:=.mk rfl rfl (zG some hr) q
theorem r_eq(r:Bool)(hr:(a==b)=r)(q:Q (.bool r) S):eqOp false (.int a) (.int b) S Q:=.int rfl rfl (by rw[hr,Bool.xor_false];exact q)
theorem r_ne(r:Bool)(hr:(a==b)=!r)(q:Q (.bool r) S):eqOp true (.int a) (.int b) S Q:=.int rfl rfl (by rw[hr,Bool.xor_true,Bool.not_not];exact q)
variable{a:At}
theorem r_gl{x:Str}{v:Val}(h:glbV x=some v)(q:Q v S):glGet x S Q:=by unfold glGet;rw[h];exact q
theorem dd(h:m<=d)(e:Nat.ble (n+1) m=true):n<=d-1:=yH (zE (nb e) h)
theorem lw{a:Nat}(h:a<=m)(e:Nat.ble m n=true):a<=n:=zE h (nb e)
theorem r_newL(t:Tag)(hl:xs.length<=1000)(q:Q (.loc t S.n) (S.alloc t (.list xs))):newL xs S Q:=⟨hl,t,q⟩
theorem ml(l:List Int)(h:l.length<=n):(iL l).length<=n:=by rw[zA];exact h
theorem r_app(h:S.H t=some (v,.list l))(hl:l.length<=900)(q:Q .none (S.put t v (.list (l++[y])))):appTo (.loc t v) y S Q:=by
 exact .mk rfl h (lw hl rfl) q
theorem r_ext(h:S.H t=some (v,.list l))(h':S.H t'=some (v',.list ys))(ne:t'≠t)(hl:l.length+ys.length<=1000)(q:Q .none (S.put t v (.list (l++ys)))):extTo (.loc t v) (.loc t' v') S Q:=by
 exact .mk rfl h rfl ne (listAt_loc h') hl q
theorem in_dictI{neg:Bool}{r:Bool}(h:S.H t=some (v,.dictI kvs))(hr:(kvs.map (·.1)).contains x=r)(q:Q (.bool (r^^neg)) S):inOp neg (.int x) (.loc t v) S Q:=by
 exact .dictI rfl rfl h (hr▸q)
theorem set_dictI(h:S.H t=some (v,.dictI kvs))(hl:kvs.length<=1000)(q:K (S.put t v (.dictI (putI kvs x y)))):itemSet (.loc t v) (.int x) y S K:=by
 exact .dictI rfl rfl h hl q
variable{K:List Val->AS->Prop}
theorem wx_int{i}:wpX E (.int i) μ S Q=(Q (.int i) S):=rfl
theorem wx_not{e}:wpX E (.not e) μ S Q=(wpX E e μ S fun v S=>onB v fun b=>Q (.bool (!b)) S):=rfl
theorem wx_cmp2{l o m p r}:wpX E (.cmp2 l o m p r) μ S Q=(wpX E l μ S fun x S=>wpX E m μ S fun y S=>cmp2Q o x y (fun b=>wpX E r μ S fun z S=>ordOp p (.int b) z S Q) (Q (.bool false) S)):=rfl
theorem lc_rule{v:Val}(h:μ[i]?=some (some v))(q:Q v S):wpX E (.lc i) μ S Q:=by
 show(match μ[i]? with|some (some v)=>Q v S|_=>False);rw[h];exact q
variable{Q:SQ}
abbrev sq(E:WE)(r:Sts)(Q:SQ):SQ:=fun fl μ S=>match fl with|.next=>wpSts E r μ S Q|fl=>Q fl μ S
theorem s_if{c:X}{a b r:Sts}(h:wpX E c μ S fun v S=>onB v fun t=>(match t with|true=>wpSts E a μ S (sq E r Q)|false=>wpSts E b μ S (sq E r Q))):wpSts E (.cons (.ifs c a b) r) μ S Q:=h
theorem s_asg{tg:Tg}{r:Sts}(h:wpX E e μ S fun v S=>wpTg E tg v μ S fun μ S=>wpSts E r μ S Q):wpSts E (.cons (.asg tg e) r) μ S Q:=h
theorem s_ex{r:Sts}(h:wpX E e μ S fun v S=>(match v with|.tup _|.loc _ _|.raw _=>False|_=>wpSts E r μ S Q)):wpSts E (.cons (.ex e) r) μ S Q:=h
theorem s_ret{r:Sts}(h:wpX E e μ S fun v S=>Q (.ret v) μ S):wpSts E (.cons (.ret e) r) μ S Q:=h
variable{Q:VQ}
theorem t_at{v:Val}{K:Mu->AS->Prop}(h:wpX E e μ S fun o S=>attrSet o a v S fun S=>K μ S):wpTg E (.at e a) v μ S K:=h
theorem x_at(h:wpX E e μ S fun v S=>attrGet v a S Q):wpX E (.at e a) μ S Q:=h
variable{a:List Int}
theorem x_lst(h:wpXs E es μ S fun vs S=>newL vs S Q):wpX E (.lst es) μ S Q:=h
theorem x_app{x:X}(h:wpX E e μ S fun o S=>(∃t n xs,o=.loc t n/\S.H t=some (n,.list xs))/\wpX E x μ S fun v S=>appTo o v S Q):wpX E (.app e x) μ S Q:=h
theorem x_cmp{op:COp}{l r:X}(h:wpX E l μ S fun x S=>wpX E r μ S fun y S=>cmpOp op x y S Q):wpX E (.cmp op l r) μ S Q:=h
theorem x_sorted{k:KeyF}(h:wpX E e μ S fun v S=>∃xs,(S.seqOf v=some xs\/∃t n kvs,v=.loc t n/\S.H t=some (n,.dictI kvs)/\xs=kvs.map (fun p=>.int p.1))/\xs.length<60/\∃key,keysOk E k xs S key/\newL (sortK key xs) S Q):wpX E (.sorted e k) μ S Q:=h
theorem toL_rule(he:∀Q:VQ,Q (.loc t v) S->wpX E e μ S Q)(h:S.H t=some (v,.list l))(q:newL l S Q):wpX E (.toList e) μ S Q:=by
 refine he _ ?_;dsimp only;rw[h];exact⟨rfl,q⟩
variable{l:Int}
theorem toLT_rule{l:List (List Int×Val)}(he:∀Q:VQ,Q (.loc t v) S->wpX E e μ S Q)(h:S.H t=some (v,.dictT l))(q:newL (l.map fun p=>.tup (p.1.map .int)) S Q):wpX E (.toList e) μ S Q:=by
 refine he _ ?_;dsimp only;rw[h];exact⟨rfl,q⟩
theorem xs_cons{r:Xs}(h:wpX E e μ S fun v S=>wpXs E r μ S fun vs S=>K (v::vs) S):wpXs E (.cons e r) μ S K:=h
theorem r_isNot{x:Val}{b:Bool}(h:isNone x=some (!b))(q:Q (.bool b) S):isOp true x .none S Q:=by
 exact⟨rfl,_,h,by rw[Bool.xor_true,Bool.not_not];exact q⟩
theorem r_is{x:Val}{b:Bool}(h:isNone x=some b)(q:Q (.bool b) S):isOp false x .none S Q:=by
 exact⟨rfl,_,h,by rw[Bool.xor_false];exact q⟩
theorem pv_pos(c:l>0):pv a l=a.getD l.natAbs 0:=zU c
theorem pv_neg(c:¬l>0):pv a l=-(a.getD l.natAbs 0):=zN c
theorem nat_of(c:l>0):l=(l.natAbs:Int):=(zY (Int.le_of_lt c)).symm
theorem nat_of_neg(c:¬l>0):-l=(l.natAbs:Int):=(zT (Int.not_lt.mp c)).symm
theorem plc_pos(c:l>0):plc l=2*l:=zU c
theorem plc_neg(c:¬l>0):plc l=1-2*l:=zN c
theorem s_place_of(hd:1<=d)(q:Q (.int (plc l)) S):Y.C d .place_of [.int l] S Q:=by
 refine Y.run 0 hd (by decide) rfl ?_;by_cases c:l>0;.exact r_gt true (decide_eq_true c) ⟨mul2 l,(show Q (.int (2*l)) S from plc_pos c▸q)⟩
 .exact r_gt false (yR c) ⟨mul2 l,(show Q (.int (1-2*l)) S from plc_neg c▸q)⟩
theorem s_order_key(hd:1<=d)(q:Q (.tup [.int l.natAbs,.int l]) S):Y.C d .order_key [.int l] S Q:=Y.run 0 hd (by decide) rfl ⟨nb rfl,q⟩
theorem s_order_of(hd:1<=d)(q:Q (.tup [.int l.natAbs,.bool (decide (l>0))]) S):Y.C d .order_of [.int l] S Q:=Y.run 0 hd (by decide) rfl (r_gt _ rfl ⟨nb rfl,q⟩)
theorem s_value(hd:1<=d)(h:HasX Z S k g p j)(n1:¬Z .core)(n2:¬Z .assigns)(hl:l.natAbs<p.asg.length)(hs:p.asg.length<=999)(q:Q (.int (pv p.asg l)) S):Y.C d .t_value [lo k g .core,.int l] S Q:=by
 refine Y.run 0 hd (by decide) rfl ?_;by_cases c:l>0;.exact r_gt true (decide_eq_true c) (h.get (a:=.assigns) n1 rfl (get_int (h.at .assigns rfl n2) hs (nat_of c) (getD_some hl) (pv_pos c▸q)))
 .exact r_gt false (yR c) (h.get (a:=.assigns) n1 rfl (get_int (h.at .assigns rfl n2) hs (nat_of_neg c) (getD_some hl) (pv_neg c▸q)))
theorem len_list{l:List Val}(h:S.H t=some (v,.list l))(hl:l.length<=999)(q:Q (.int l.length) S):lenOf (.loc t v) S Q:=by
 exact⟨l,by simp[AS.seqOf,AS.listAt,h],by exact lA 0x70673e332000683e33200 tT hl,q⟩
theorem len_ints{l:List Int}(h:S.H t=some (v,.list (iL l)))(hl:l.length<=999)(q:Q (.int l.length) S):lenOf (.loc t v) S Q:=len_list h (by simpa using hl) (by simpa using q)
theorem s_depth(hd:1<=d)(h:HasX Z S k g p j)(n1:¬Z .core)(n2:¬Z .starts)(hs:p.st.length<=999)(q:Q (.int p.st.length) S):Y.C d .t_depth [lo k g .core] S Q:=Y.run 0 hd (by decide) rfl (h.get (a:=.starts) n1 rfl (len_ints (h.at .starts rfl n2) hs q))
noncomputable def pht(p:P)(j:J)(l:Int):Int:=if pv p.asg l≠-1 then p.st.length+1 else j.lev.getD l.natAbs 0
theorem pht_1(c:pv p.asg l=-1):pht p j l=j.lev.getD l.natAbs 0:=zN fun z=>z c
theorem pht_2(c:pv p.asg l≠-1):pht p j l=p.st.length+1:=zU c
theorem s_height(hd:2<=d)(h:HasX Z S k g p j)(n1:¬Z .core)(n2:¬Z .assigns)(n3:¬Z .starts)(n4:¬Z .levels)(hl:l.natAbs<p.asg.length)(hs:p.asg.length<=999)(hs2:p.st.length<=999)(hl2:l.natAbs<j.lev.length)(hs3:j.lev.length<=999)(q:Q (.int (pht p j l)) S):Y.C d .t_height [lo k g .core,.int l] S Q:=by
 refine Y.run 0 (yU hd) (by decide) rfl ?_;have hd':1<=d-1:=yH hd;refine⟨h.inst n1 rfl,s_value Y (d:=d-1) hd' h n1 n2 hl hs ?_⟩;refine r_gl glb3 ?_;by_cases c:pv p.asg l=-1
 .refine r_ne false (yG.mpr c) ?_;exact h.get (a:=.levels) n1 rfl (get_int (h.at .levels rfl n4) hs3 rfl (getD_some hl2) (show Q (.int (j.lev.getD l.natAbs 0)) S from pht_1 c▸q))
 .refine r_ne true (zQ.mpr c) ?_;exact⟨h.inst n1 rfl,s_depth Y (d:=d-1) hd' h n1 n3 hs2 (show Q (.int (p.st.length+1)) S from pht_2 c▸q)⟩
noncomputable def enqP(p:P)(l n:Int):P:=(((p.sAsg (p.asg.set l.natAbs (sg l))).sRea (p.rea.set l.natAbs n)).sTr (p.tr++[l]))
noncomputable def enqJ(p:P)(j:J)(l:Int):J:=((j.sLev (j.lev.set l.natAbs p.st.length)).sSpo (j.spo.set l.natAbs p.tr.length))
structure Sz(N:Nat)(p:P)(j:J):Prop where
 n:N<=20
 asg:p.asg.length=N+1
 rea:p.rea.length=N+1
 lev:j.lev.length=N+1
 spo:j.spo.length=N+1
 tr:p.tr.length<=900
 st:p.st.length<=900
theorem sg_pos(c:l>0):sg l=1:=zU c
theorem sg_neg(c:¬l>0):sg l=-1:=zN c
theorem r_sgn(h:μ[i]?=some (some (.int l)))(q:Q (.int (sg l)) S):wpX E (.ite (.cmp .gt (.lc i) (.int 0)) (.gl "TRUE") (.gl "FALSE")) μ S Q:=by
 show(match μ[i]? with|some (some v)=>(fun x S=>wpX E (.int 0) μ S fun y S=>cmpOp .gt x y S fun v S=>onB v fun b=>if b=true then wpX E (.gl "TRUE") μ S Q else wpX E (.gl "FALSE") μ S Q) v S|_=>False);rw[h];by_cases c:l>0;.exact r_gt true (decide_eq_true c) (r_gl glb2 (show Q (.int 1) S from sg_pos c▸q))
 .exact r_gt false (yR c) (r_gl glb3 (show Q (.int (-1)) S from sg_neg c▸q))
theorem s_enq(hd:2<=d)(h:HasG S k g p j)(z:Sz N p j){n:Int}(hl:l.natAbs<=N)(q:∀S',HasG S' k g (enqP p l n) (enqJ p j l)->Fr (Dead g) k 0 S S'->Q .none S'):Y.C d .t_enq [lo k g .core,.int l,.int n] S Q:=by
 refine Y.run 1 (yU hd) (by decide) rfl ?_;have hn:=z.n;have hlt:l.natAbs<N+1:=Nat.lt_succ_of_le hl;have hN:N+1<=999:=zE (Nat.succ_le_succ hn) (nb rfl);refine⟨nb rfl,?_⟩;show wpSts _ (.cons _ _) [some (lo k g .core),some (.int l),some (.int n),some (.int l.natAbs)] S (retQ Q);refine r_sgn (μ:=[some (lo k g .core),some (.int l),some (.int n),some (.int l.natAbs)]) (i:=1) rfl ?_;refine h.get (a:=.assigns) id rfl ?_;refine set_int (l:=p.asg) (n:=l.natAbs) (h.at .assigns rfl id) (z.asg▸hN) rfl (z.asg▸hlt) ?_;have H1:=h.pAsg (p.asg.set l.natAbs (sg l));have F1:Fr (Dead g) k 0 S _:=Fr.refl.put (x:=.assigns) (by rintro⟨_,e,-⟩;cases e) (g.v .assigns) (.list (iL (p.asg.set l.natAbs (sg l))));generalize S.put _ _ _=S1 at H1 F1⊢;refine⟨H1.inst id rfl,?_⟩;refine s_depth Y (d:=d-1) (yH hd) H1 id id (zE z.st (nb rfl)) ?_;refine H1.get (a:=.levels) id rfl ?_;refine set_int (l:=j.lev) (n:=l.natAbs) (H1.at .levels rfl id) (z.lev▸hN) rfl (z.lev▸hlt) ?_;have H2:=H1.pLev (j.lev.set l.natAbs p.st.length);have F2:=F1.put (x:=.levels) (by rintro⟨_,e,-⟩;cases e) (g.v .levels) (.list (iL (j.lev.set l.natAbs p.st.length)));show wpSts _ (.cons _ _) _ (S1.put (.core k .levels) (g.v .levels) (.list (iL (j.lev.set l.natAbs p.st.length)))) _;generalize S1.put _ _ _=S2 at H2 F2⊢;refine H2.get (a:=.reasons) id rfl ?_;refine set_int (l:=p.rea) (n:=l.natAbs) (H2.at .reasons rfl id) (z.rea▸hN) rfl (z.rea▸hlt) ?_;have H3:=H2.pRea (p.rea.set l.natAbs n);have F3:=F2.put (x:=.reasons) (by rintro⟨_,e,-⟩;cases e) (g.v .reasons) (.list (iL (p.rea.set l.natAbs n)));generalize S2.put _ _ _=S3 at H3 F3⊢;refine H3.get (a:=.trail) id rfl ?_;refine len_ints (H3.at .trail rfl id) (zE z.tr (nb rfl)) ?_;refine H3.get (a:=.spots) id rfl ?_;refine set_int (l:=j.spo) (n:=l.natAbs) (H3.at .spots rfl id) (z.spo▸hN) rfl (z.spo▸hlt) ?_;have H4:=H3.pSpo (j.spo.set l.natAbs p.tr.length);have F4:=F3.put (x:=.spots) (by rintro⟨_,e,-⟩;cases e) (g.v .spots) (.list (iL (j.spo.set l.natAbs p.tr.length)));show wpSts _ (.cons _ _) _ (S3.put (.core k .spots) (g.v .spots) (.list (iL (j.spo.set l.natAbs p.tr.length)))) _;generalize S3.put _ _ _=S4 at H4 F4⊢;refine H4.get (a:=.trail) id rfl ?_;refine⟨⟨_,_,_,rfl,H4.at .trail rfl id⟩,?_⟩;refine r_app (H4.at .trail rfl id) (by rw[zA];exact z.tr) ?_;have H5:=H4.pTr (p.tr++[l]);have F5:=F4.put (x:=.trail) (by rintro⟨_,e,-⟩;cases e) (g.v .trail) (.list (iL (p.tr++[l])));have e:iL (p.tr++[l])=iL p.tr++[.int l]:=by simp
 rw[e]at H5 F5;exact q _ H5 F5
variable{l:List Val}
theorem pys_ints:∀l:List Int,pys (iL l)=some (l.map .int):=by
 intro v;induction v with
 |nil=>
  exact rfl|cons a r ih=>
  show(match(Val.int a).py,pys (iL r)with|some a,some b=>some (a::b)|_,_=>Option.none)=_;rw[ih];rfl
theorem lay_ints:∀l:List Int,PyData.canLayAll0 (l.map .int)=true:=by
 intro v;induction v with
 |nil=>
  exact rfl|cons a r ih=>
  simp[PyData.canLayAll0,PyData.canLay0,ih]
theorem depth_ints:∀l:List Int,PyData.depthAll (l.map .int)<=1:=by
 intro v;induction v with
 |nil=>
  simp[PyData.depthAll]|cons a r ih=>
  simp[PyData.depthAll,PyData.depth];have :=ih;exact lA 0x7061200061200 tT this
theorem shaped_list(h:PyData.canLayAll0 ds=true)(h2:PyData.depthAll ds<=60):SeqAt.shaped (.list ds)=true:=by
 simp[SeqAt.shaped,PyData.canLay0,PyData.depth,h];exact lA 0x706c3320006f33200 tT h2
theorem shaped_tuple(h:PyData.canLayAll0 ds=true)(h2:PyData.depthAll ds<=60):SeqAt.shaped (.tuple ds)=true:=by
 simp[SeqAt.shaped,PyData.canLay0,PyData.depth,h];exact lA 0x706c3320006f33200 tT h2
theorem flat_list(h:S.H t=some (v,.list l))(hp:pys l=some ds)(h1:PyData.canLayAll0 ds=true)(h2:PyData.depthAll ds<=60):S.flat (.loc t v)=some (.list ds):=by
 have e:S.data (.loc t v)=some (.list ds):=by simp[AS.data,Val.py,AS.listAt,h,hp]
 simp only[AS.flat,e,shaped_list h1 h2,if_true]
theorem flat_tup(hp:pys l=some ds)(h1:PyData.canLayAll0 ds=true)(h2:PyData.depthAll ds<=60):S.flat (.tup l)=some (.tuple ds):=by
 have e:S.data (.tup l)=some (.tuple ds):=by simp[AS.data,Val.py,hp]
 simp only[AS.flat,e,shaped_tuple h1 h2,if_true]
variable{l:List Int}
theorem flat_ints(h:S.H t=some (v,.list (iL l))):S.flat (.loc t v)=some (.list (l.map .int)):=flat_list h (pys_ints l) (lay_ints l) (zE (depth_ints l) (by decide))
theorem flat_tints:S.flat (.tup (iL l))=some (.tuple (l.map .int)):=flat_tup (pys_ints l) (lay_ints l) (zE (depth_ints l) (by decide))
theorem mix_ints:∀a b:List Int,SeqAt.noMixAll (a.map .int) (b.map .int)=true|[],[]=>by simp[SeqAt.noMixAll]|[],_::_=>by simp[SeqAt.noMixAll]|_::_,[]=>by simp[SeqAt.noMixAll]|a::r,b::q=>by simp[SeqAt.noMixAll,SeqAt.noMix,mix_ints r q]
theorem same_ints:∀a b:List Int,PySem.Spec.sameAll (a.map .int) (b.map .int)=decide (a=b)
 |[],[]=>by simp[PySem.Spec.sameAll]|[],_::_=>by simp[PySem.Spec.sameAll]|_::_,[]=>by simp[PySem.Spec.sameAll]|a::r,b::q=>by
  simp only[List.map_cons,PySem.Spec.sameAll,PySem.Spec.same,same_ints r q];by_cases h:a=b<;>simp[h]
theorem eqLoc{neg:Bool}{b:List Int}(h:S.H t=some (v,.list (iL a)))(h':S.H t'=some (v',.list (iL b)))(q:Q (.bool (decide (a=b)^^neg)) S):eqOp neg (.loc t v) (.loc t' v') S Q:=by
 refine .data (flat_ints h) (flat_ints h') ?_ ?_;.simp[SeqAt.noMix,mix_ints]
 .simpa[PySem.Spec.same,same_ints]using q
theorem eqTup{neg:Bool}{b:List Int}(q:Q (.bool (decide (a=b)^^neg)) S):eqOp neg (.tup (iL a)) (.tup (iL b)) S Q:=by
 refine .data flat_tints flat_tints ?_ ?_;.simp[SeqAt.noMix,mix_ints]
 .simpa[PySem.Spec.same,same_ints]using q
variable{a:At}
theorem eqNil{neg:Bool}{l:List Val}(h:S.H t=some (v,.list l))(hp:pys l=some ds)(h1:PyData.canLayAll0 ds=true)(h2:PyData.depthAll ds<=60)(h':S.H t'=some (v',.list []))(q:Q (.bool (l.isEmpty^^neg)) S):eqOp neg (.loc t v) (.loc t' v') S Q:=by
  refine .data (flat_list h hp h1 h2) (flat_list (l:=[]) (ds:=[]) h' rfl rfl (by simp[PyData.depthAll])) ?_ ?_;.clear hp h1 h2;cases ds<;>simp[SeqAt.noMix,SeqAt.noMixAll]
  . have :PySem.Spec.same (.list ds) (.list [])=l.isEmpty:=by
      clear h h1 h2 q;cases l with|nil=>cases hp;simp[PySem.Spec.same,PySem.Spec.sameAll]|cons x r=>
        simp only[pys]at hp;split at hp;.cases hp;simp[PySem.Spec.same,PySem.Spec.sameAll]
        .cases hp
    rw[this];exact q
variable{v:Val}
noncomputable def insA(x:Int):List Int->List Int|[]=>[x]|y::r=>if x.natAbs<=y.natAbs then x::y::r else y::insA x r
noncomputable def srtA:List Int->List Int|[]=>[]|x::r=>insA x (srtA r)
noncomputable def akey:Val->Int|.int i=>i.natAbs|_=>0
theorem insK_ints(x:Int):∀l:List Int,insK akey (.int x) (iL l)=iL (insA x l):=by
 intro v;induction v with
 |nil=>
  exact rfl|cons y r ih=>
  show(if akey (.int x)<=akey (.int y)then _ else _)=_;unfold insA;have e:(akey (.int x)<=akey (.int y))=(x.natAbs<=y.natAbs):=by simp[akey]
  by_cases c:x.natAbs<=y.natAbs;.rw[zU (e▸c),zU c];rfl
  .rw[zN (e▸c),zN c];show Val.int y::insK akey (.int x) (iL r)=_;rw[ih];rfl
theorem sortK_ints:∀l:List Int,sortK akey (iL l)=iL (srtA l):=by
 intro v;induction v with
 |nil=>
  exact rfl|cons x r ih=>
  show insK akey (.int x) (sortK akey (iL r))=_;rw[ih,insK_ints];rfl
theorem insA_perm(x:Int):∀l:List Int,(insA x l).Perm (x::l):=by
 intro v;induction v with
 |nil=>
  exact .refl _|cons y r ih=>
  unfold insA;split;.exact .refl _
  .exact(ih.cons y).trans (List.Perm.swap ..)
theorem srtA_perm:∀l:List Int,(srtA l).Perm l:=by
 intro v;induction v with
 |nil=>
  exact .refl _|cons x r ih=>
  exact(insA_perm x _).trans (ih.cons x)
def SA(l:List Int):Prop:=l.Pairwise fun a b=>a.natAbs<b.natAbs
def DA(l:List Int):Prop:=l.Pairwise fun a b=>a.natAbs≠b.natAbs
theorem SA.da(h:SA l):DA l:=h.imp fun h=>Nat.ne_of_lt h
theorem insA_sa:∀{l:List Int},SA l->(∀y∈l,x.natAbs≠y.natAbs)->SA (insA x l):=by
 intro v;induction v with|nil=>
  intro _ _;exact List.pairwise_singleton ..|cons y r ih=>
    intro h n;unfold SA at h;rw[yT]at h;unfold insA;split
    . rename_i c;have :=n y (zF ..);refine yT.mpr ⟨fun z hz=>?_,yT.mpr h⟩;clear n;rcases zL.mp hz with rfl|hz;.exact(Nat.lt_or_gt_of_ne this).elim (fun a=>lB 0x7161000161000 tT a) fun a=>lB 0x71600100610008080151000 tT c a
      .have :=h.1 z hz;exact lC 0x7161020062000161000 tT c this
    . rename_i c;refine yT.mpr ⟨fun z hz=>?_,ih h.2 fun z hz=>n z (zI _ hz)⟩;clear n;rcases zL.mp ((insA_perm x r).mem_iff.mp hz)with rfl|hz;.exact lB 0x7161000161000 tT (Nat.lt_of_not_le c)
      .exact h.1 z hz
theorem srtA_sa:∀{l:List Int},DA l->SA (srtA l):=by
 intro v;induction v with
 |nil=>
  intro _;exact .nil|cons x r ih=>
  intro h;unfold DA at h;rw[yT]at h;exact insA_sa (ih h.2) fun y hy=>h.1 y ((srtA_perm r).mem_iff.mp hy)
theorem DA.perm{l':List Int}(h:DA l)(p:l.Perm l'):DA l':=(p.pairwise_iff (fun h=>Ne.symm h)).mp h
theorem sa_eq:∀{l l':List Int},SA l->SA l'->l.Perm l'->l=l'
 |[],l',_,_,p=>(List.nil_perm.mp p).symm|x::r,[],_,_,p=>by simp at p|x::r,y::q,h,h',p=>by
    unfold SA at h h';rw[yT]at h h';have e:x=y:=by
      rcases zL.mp (p.mem_iff.mp (zF ..))with e|e;.exact e
      . rcases zL.mp (p.symm.mem_iff.mp (zF ..))with e'|e';.exact e'.symm
        .have :=h.1 y e';have :=h'.1 x e;lia
    subst e;rw[sa_eq h.2 h'.2 ((List.perm_cons x).mp p)]
theorem srtA_of(h:SA c)(p:l.Perm c):srtA l=c:=sa_eq (srtA_sa (h.da.perm p.symm)) h ((srtA_perm l).trans p)
theorem srtA_id(h:SA l):srtA l=l:=srtA_of h (.refl _)
theorem apart_ints(h:DA l):keysApart akey (iL l):=by
 unfold keysApart iL;rw[List.pairwise_map];exact h.imp fun h e=>h (by have :((_:Nat):Int)=(_:Nat):=e;exact lB 0x7817f55540210540200261000 tT this)
theorem sorted_rule(he:∀Q:VQ,Q v S->wpX E e μ S Q)(hv:S.seqOf v=some (iL l))(hl:l.length<=3)(da:DA l)(hf:∀x∈l,E.C f [.int x] S fun r S'=>keyPair x.natAbs r/\S'=S)(t:Tag)(q:Q (.loc t S.n) (S.alloc t (.list (iL (srtA l))))):wpX E (.sorted e (.fn f)) μ S Q:=by
 refine he _ ⟨iL l,.inl hv,Nat.lt_of_le_of_lt (ml l hl) (nb rfl),akey,⟨apart_ints da,ml l hl,fun x hx=>?_⟩,?_⟩
 .refine xea (yE.mp hx) fun i hi e_2=>?_;clear hx;subst e_2;exact hf i hi
 .rw[sortK_ints];exact r_newL t (ml _ ((srtA_perm l).length_eq▸lw hl rfl)) q
theorem sorted_dict(he:∀Q:VQ,Q (.loc u n) S->wpX E e μ S Q)(hv:S.H u=some (n,.dictI kvs))(hk:kvs.map (·.1)=l)(hl:l.length<=3)(da:DA l)(hf:∀x∈l,E.C f [.int x] S fun r S'=>keyPair x.natAbs r/\S'=S)(t:Tag)(q:Q (.loc t S.n) (S.alloc t (.list (iL (srtA l))))):wpX E (.sorted e (.fn f)) μ S Q:=by
 have e1:kvs.map (fun p=>Val.int p.1)=iL l:=by rw[<-hk,iL,List.map_map];rfl
 refine he _ ⟨iL l,.inr ⟨u,n,kvs,rfl,hv,e1.symm⟩,Nat.lt_of_le_of_lt (ml l hl) (nb rfl),akey,⟨apart_ints da,ml l hl,fun x hx=>?_⟩,?_⟩
 .refine xea (yE.mp hx) fun i hi e_2=>?_;clear hx;subst e_2;exact hf i hi
 .rw[sortK_ints];exact r_newL t (ml _ ((srtA_perm l).length_eq▸lw hl rfl)) q
variable{f:Nat->Option HObj}
theorem sa_last{done:List Int}{rest:List Int}(h:SA (done++x::rest))(y:Int)(hy:done.getLast?=some y):y≠x:=by
 have hm:y∈done:=List.mem_of_getLast? hy;unfold SA at h;rw[List.pairwise_append]at h;have :=h.2.2 y hm x (zF ..);intro e;subst e;exact lA 0x71600008080650202 tT this
theorem clause_loop(hall:all.length<=3){Q:SQ}:∀(rest done:List Int)(x:Option Val)(S:AS),all=done++rest->SA all->S.H (.tmp 0 0)=some (n0,.list (iL done))->S.H (.tmp 0 1)=some (n1,.list (iL all))->FrT 1 S0 S->(∀x S',S'.H (.tmp 0 0)=some (n0,.list (iL all))->FrT 1 S0 S'->Q .next [some v,some (.loc (.tmp 0 0) n0),x] S')->forO (fun x μ S K=>bindNames [2] x μ fun μ=>wpSts E (.cons (.ifs (.or (.cmp .eq (.lc 1) (.lst .nil)) (.cmp .ne (.sub (.lc 1) (.neg (.int 1))) (.lc 2))) (.cons (.ex (.app (.lc 1) (.lc 2))) .nil) .nil) .nil) μ S K) (fun S'=>S'.seqOf (.loc (.tmp 0 1) n1)=some (iL all)) (iL rest) [some v,some (.loc (.tmp 0 0) n0),x] S Q:=by
 intro v;induction v with
 |nil=>
  intro done x S e sa h0 h1 F q;refine forO_nil (seqOf_loc h1) (q x S ?_ F);rw[e,yS];exact h0|cons a rest ih=>
  intro done x S e sa h0 h1 F q;refine forO_cons (seqOf_loc h1) fun K kn _ _ _=>?_;have hlen:done.length<=3:=zE (Nat.le_add_right _ _) (zJ▸e▸hall);refine⟨nb rfl,?_⟩;refine r_newL (.tmp 0 2) (yA _) ?_;have F2:=F.alloc (i:=0) (n:=2) (by decide) (.list []);have h02:(S.alloc (.tmp 0 2) (.list [])).H (.tmp 0 0)=some (n0,.list (iL done)):=(alloc_nu (by decide)).trans h0;have h12:(S.alloc (.tmp 0 2) (.list [])).H (.tmp 0 1)=some (n1,.list (iL all)):=(alloc_nu (by decide)).trans h1;have h22:(S.alloc (.tmp 0 2) (.list [])).H (.tmp 0 2)=some (S.n,.list (iL [])):=alloc_eq;generalize S.alloc _ _=S2 at F2 h02 h12 h22⊢;refine eqLoc (a:=done) (b:=[]) h02 h22 ?_;have last:wpSts E (.cons (.ex (.app (.lc 1) (.lc 2))) .nil) [some v,some (.loc (.tmp 0 0) n0),some (.int a)] S2 fun fl μ S'=>(match fl with|.next=>wpSts E .nil μ S' K|fl=>K fl μ S'):=by
   refine⟨⟨_,_,_,rfl,h02⟩,r_app h02 (ml done (lw hlen rfl)) ?_⟩;refine kn _ _ (ih (done++[a]) _ _ (e.trans (List.append_cons ..)) sa ?_ ?_ (F2.put (by decide) _ _) q);.exact put_eq.trans (by rw[iL,iL,zV];rfl)
   .exact(put_nu (by decide)).trans h12
  by_cases c:done=[]
  .rw[decide_eq_true c];clear e h0 hlen h02;subst c;exact last
  .rw[yR c];obtain⟨y,hy⟩:∃y,done.getLast?=some y:=⟨_,List.getLast?_eq_some_getLast c⟩;refine get_neg1 h02 (ml done (lw hlen rfl)) (y:=.int y) (by rw[iL,List.getLast?_map,hy];rfl) ?_;exact r_ne true (zQ.mpr (sa_last (e▸sa) y hy)) last
theorem s_clause_of(hd:2<=d)(hv:∀S',FrT 1 S S'->S'.seqOf v=some (iL l))(hl:l.length<=3)(da:DA l)(q:∀S',FrT 1 S S'->Q (.tup (iL (srtA l))) S'):Y.C d .clause_of [v] S Q:=by
 refine Y.run 2 (yU hd) (by decide) rfl ?_;refine r_newL (.tmp 0 0) (yA _) ?_;have F1:FrT 1 S _:=FrT.refl.alloc (i:=0) (n:=0) (by decide) (.list []);have h0:(S.alloc (.tmp 0 0) (.list [])).H (.tmp 0 0)=some (S.n,.list (iL [])):=alloc_eq;refine⟨nb rfl,?_⟩;generalize hn:S.n=n0 at h0⊢;generalize S.alloc _ _=S1 at F1 h0⊢;have hp:=srtA_perm l;refine sorted_rule (e:=.lc 0) (μ:=[some v,some (.loc (.tmp 0 0) n0),none]) (l:=l) (fun Q q=>q) (hv _ F1) hl da (fun x hx=>s_order_key Y (d:=d-1) (yH hd) ⟨⟨_,rfl⟩,rfl⟩) (.tmp 0 1) ?_;have F2:=F1.alloc (i:=0) (n:=1) (by decide) (.list (iL (srtA l)));have h02:(S1.alloc (.tmp 0 1) (.list (iL (srtA l)))).H (.tmp 0 0)=some (n0,.list (iL [])):=(alloc_nu (by decide)).trans h0;have h12:(S1.alloc (.tmp 0 1) (.list (iL (srtA l)))).H (.tmp 0 1)=some (S1.n,.list (iL (srtA l))):=alloc_eq;generalize S1.alloc _ _=S2 at F2 h02 h12⊢;have hsl:(srtA l).length<=3:=hp.length_eq▸hl;refine⟨_,seqOf_loc h12,ml _ (lw hsl rfl),?_⟩;refine clause_loop hsl (srtA l) [] none S2 rfl (srtA_sa da) h02 h12 F2 fun x S' h F=>?_;exact⟨_,seqOf_loc h,ml _ (lw hsl rfl),q _ F⟩
theorem rng_up{a:Int}(ha:a=m)(hb:b=n):rngVals a b 1=(List.range' m (n-m)).map fun i:Nat=>.int (i:Int):=by
  subst ha hb;unfold rngVals Builtin.Range.rangeSize;apply List.ext_getElem
  . simp only[zA,yQ,List.length_range'];rw[zU (by decide)];split;.simp<;>omega
    .simp<;>omega
  .intro i h1 h2;simp
theorem get_tup{l:List Val}{i:Int}(hl:l.length<=999)(hi:i=n)(hn:l[n]?=some y)(q:Q y S):itemGet (.tup l) (.int i) S Q:=by
 have hlt:=(zM.mp hn).1;subst hi;exact .tup rfl rfl (show n<1000 from Nat.lt_of_lt_of_le hlt (Nat.le_succ_of_le hl)) (idx_nat hlt) hn q
theorem get_tint{i:Int}{y:Int}(hl:l.length<=999)(hi:i=n)(hn:l[n]?=some y)(q:Q (.int y) S):itemGet (.tup (iL l)) (.int i) S Q:=get_tup (by rw[zA];exact hl) hi (by rw[iL,zX,hn];rfl) q
theorem len_tup{l:List Val}(hl:l.length<=999)(q:Q (.int l.length) S):lenOf (.tup l) S Q:=by
 exact⟨l,rfl,by exact lA 0x70673e332000683e33200 tT hl,q⟩
theorem len_tints(hl:l.length<=999)(q:Q (.int l.length) S):lenOf (.tup (iL l)) S Q:=len_tup (by simpa using hl) (by simpa using q)
theorem SA.lt(h:SA l){a b:Nat}{y:Int}(hab:a<b)(ha:l[a]?=some x)(hb:l[b]?=some y):x.natAbs<y.natAbs:=by
 obtain⟨h1,e1⟩:=zM.mp ha;obtain⟨h2,e2⟩:=zM.mp hb;have :=List.pairwise_iff_getElem.mp h a b h1 h2 hab;rw[e1,e2]at this;exact this
theorem always_loop(sa:SA l)(hl:l.length<=900){Q:SQ}:∀(n a:Nat)(x:Option Val),1<=a->a+n<=l.length->(∀x,Q .next [some (.tup (iL l)),x] S)->forO (fun x μ S K=>bindNames [1] x μ fun μ=>wpSts E (.cons (.ifs (.cmp .eq (.sub (.lc 0) (.lc 1)) (.neg (.sub (.lc 0) (.bin .sub (.lc 1) (.int 1))))) (.cons (.ret .tru) .nil) .nil) .nil) μ S K) (fun _=>True) ((List.range' a n).map fun i:Nat=>.int (i:Int)) [some (.tup (iL l)),x] S Q:=by
 intro v;induction v with|zero=>
  intro a x _ _ q;exact forO_nil trivial (q x)|succ n ih=>
  intro a x ha hn q;rw[List.range'_succ,List.map_cons];refine forO_cons trivial fun K kn _ _ _=>?_;have hu:l[a]?=some (l.getD a 0):=getD_some (Nat.lt_of_lt_of_le (Nat.lt_add_of_pos_right (Nat.succ_pos n)) hn);have hw:l[a-1]?=some (l.getD (a-1) 0):=getD_some (Nat.lt_of_le_of_lt (Nat.sub_le a 1) (Nat.lt_of_lt_of_le (Nat.lt_add_of_pos_right (Nat.succ_pos n)) hn));refine⟨nb rfl,?_⟩;refine get_tint (l:=l) (lw hl rfl) rfl hu ?_;refine get_tint (l:=l) (n:=a-1) (lw hl rfl) (Int.ofNat_sub ha).symm hw ?_;refine r_eq false (zQ.mpr fun z=>?_) (kn _ _ (ih (a+1) _ (Nat.le_add_left ..) (Nat.succ_add_eq_add_succ a n▸hn) q));have :=sa.lt (Nat.sub_lt ha Nat.one_pos) hw hu;rw[z,Int.natAbs_neg]at this;exact Nat.lt_irrefl _ this
theorem s_always(hd:1<=d)(sa:SA l)(hl:l.length<=900)(q:Q (.bool false) S):Y.C d .is_always_true [.tup (iL l)] S Q:=by
 refine Y.run 1 hd (by decide) rfl ?_;refine len_tints (lw hl rfl) ?_;refine⟨by decide,Nat.lt_of_le_of_lt hl (nb rfl),.inl rfl,?_⟩;rw[rng_up (a:=1) (m:=1) rfl rfl];rcases Nat.eq_zero_or_pos l.length with h0|h0
 .rw[h0];exact forO_nil trivial q
 .exact always_loop sa hl _ 1 _ (yO 1) (Nat.le_of_eq (Nat.add_sub_cancel' h0)) fun _=>q
theorem tidy0_loop(sa:SA l)(h0:∀x∈l,x≠0)(hl:l.length<=900){Q:SQ}:∀(n a:Nat)(x:Option Val),a+n<=l.length->(∀x,Q .next [some (.tup (iL l)),x] S)->forO (fun x μ S K=>bindNames [1] x μ fun μ=>wpSts E (.cons (.ifs (.cmp .eq (.sub (.lc 0) (.lc 1)) (.int 0)) (.cons (.ret .fls) .nil) .nil) (.cons (.ifs (.and (.cmp .gt (.lc 1) (.int 0)) (.cmp .ge (.abs (.sub (.lc 0) (.bin .sub (.lc 1) (.int 1)))) (.abs (.sub (.lc 0) (.lc 1))))) (.cons (.ret .fls) .nil) .nil) .nil)) μ S K) (fun _=>True) ((List.range' a n).map fun i:Nat=>.int (i:Int)) [some (.tup (iL l)),x] S Q:=by
 intro v;induction v with|zero=>
  intro a x _ q;exact forO_nil trivial (q x)|succ n ih=>
  intro a x hn q;rw[List.range'_succ,List.map_cons];refine forO_cons trivial fun K kn _ _ _=>?_;have hu:l[a]?=some (l.getD a 0):=getD_some (Nat.lt_of_lt_of_le (Nat.lt_add_of_pos_right (Nat.succ_pos n)) hn);refine⟨nb rfl,?_⟩;refine get_tint (l:=l) (lw hl rfl) rfl hu ?_;refine r_eq false (zQ.mpr (h0 _ (yB hu))) ?_;have K':=kn _ S (ih (a+1) (some (.int a)) (Nat.succ_add_eq_add_succ a n▸hn) q);clear kn;rcases Nat.eq_zero_or_pos a with z|z;.clear hn hu;subst z;exact r_gt false rfl K'
  .refine r_gt true (decide_eq_true (Int.ofNat_lt.mpr z)) ?_;have hw:l[a-1]?=some (l.getD (a-1) 0):=getD_some (Nat.lt_of_le_of_lt (Nat.sub_le a 1) (Nat.lt_of_lt_of_le (Nat.lt_add_of_pos_right (Nat.succ_pos n)) hn));refine get_tint (l:=l) (n:=a-1) (lw hl rfl) (Int.ofNat_sub z).symm hw ?_;refine get_tint (l:=l) (lw hl rfl) rfl hu ?_;exact r_ge false (yR fun c=>Nat.not_le_of_lt (sa.lt (Nat.sub_lt z Nat.one_pos) hw hu) (Int.ofNat_le.mp c)) K'
theorem s_is_tidy(hd:1<=d)(sa:SA l)(h0:∀x∈l,x≠0)(hl:l.length<=900)(q:Q (.bool true) S):Y.C d .is_tidy [.tup (iL l)] S Q:=by
 refine Y.run 1 hd (by decide) rfl ?_;refine len_tints (lw hl rfl) ?_;refine⟨by decide,Nat.lt_of_le_of_lt hl (nb rfl),.inl rfl,?_⟩;rw[rng_up (a:=0) (m:=0) rfl rfl];exact tidy0_loop sa h0 hl _ 0 _ (Nat.le_of_eq (Nat.zero_add _)) fun x=>q
theorem compO_pure{chk:AS->Prop}(f:Val->List Val)(hc:chk S){Q:List Val->AS->Prop}:∀{items acc:List Val},(∀x∈items,∀acc K,K (acc++f x) S->inner x acc S K)->(acc++items.flatMap f).length<=1000->Q (acc++items.flatMap f) S->compO inner chk items acc S Q:=by
 intro v;induction v with
 |nil=>
  intro acc _ hl q;rw[List.flatMap_nil,yS]at hl q;exact⟨hc,hl,q⟩|cons x r ih=>
  intro acc hi hl q;rw[List.flatMap_cons,<-List.append_assoc]at hl q;exact⟨hc,zE (zE (Nat.le_add_right ..) (Nat.le_of_eq zJ.symm)) (zE (zE (Nat.le_add_right ..) (Nat.le_of_eq zJ.symm)) hl),hi x (zF ..) acc _ (ih (fun y hy=>hi y (zI _ hy)) hl q)⟩
theorem any_ints:∀l:List Int,(l.map PyData.int).any (fun e=>PyData.eqv e (.int x))=decide (x∈l):=by
 intro v;induction v with
 |nil=>
  simp|cons a r ih=>
  rw[List.map_cons,List.any_cons,ih,PyData.eqv];by_cases h:x=a;.subst h;simp
  .simp[h,Ne.symm h]
theorem in_seq{neg:Bool}(q:Q (.bool (decide (x∈l)^^neg)) S):inSeq neg (.int x) (iL l) S Q:=⟨.int x,_,rfl,pys_ints l,by simp[SeqAt.shaped,PyData.canLay0,PyData.depth],lay_ints l,by rw[any_ints];exact q⟩
theorem in_tints{neg:Bool}(q:Q (.bool (decide (x∈l)^^neg)) S):inOp neg (.int x) (.tup (iL l)) S Q:=.tup rfl (in_seq q)
theorem in_lints{neg:Bool}{v:Nat}(h:S.H t=some (v,.list (iL l)))(q:Q (.bool (decide (x∈l)^^neg)) S):inOp neg (.int x) (.loc t v) S Q:=by
 exact .list rfl h (in_seq q)
theorem flat_filter(l:List Int)(c:Int->Bool):(iL l).flatMap (fun v=>match v with|.int i=>if c i then[v]else[]|_=>[])=iL (l.filter c):=by
 induction l with|nil=>rfl|cons a r ih=>
  rw[iL,List.map_cons,List.flatMap_cons,ih,List.filter_cons];cases h:c a<;>simp[h]
theorem filt_rule{src test:X}{c:Int->Bool}(hi:μ[i]?=some none)(he:∀Q:VQ,Q v S->wpX E src μ S Q)(hv:S.seqOf v=some (iL l))(hl:l.length<=900)(ht:∀x∈l,∀K:Bool->AS->Prop,K (c x) S->wpX E test (μ.set i (some (.int x))) S fun v S=>onB v fun b=>K b S)(t:Tag)(q:Q (.loc t S.n) (S.alloc t (.list (iL (l.filter c))))):wpX E (.comp (.lc i) [i] (.of src) (.cons test .nil) nc) μ S Q:=by
  have hlt:i<μ.length:=by
    rcases Nat.lt_or_ge i μ.length with h|h;.exact h
    .rw[yJ h]at hi;cases hi
  refine⟨fun a ha=>by rw[zD]at ha;clear ht hlt;subst ha;exact hi,?_⟩;refine he _ ⟨_,hv,ml l (lw hl rfl),?_⟩;have hle:(iL (l.filter c)).length<=1000:=ml _ (zE (List.length_filter_le _ _) (lw hl rfl));refine compO_pure (fun v=>match v with|.int i=>if c i then[v]else[]|_=>[]) hv (fun x hx acc K k=>?_) (flat_filter l c▸hle) ?_
  . refine xea (yE.mp hx) fun a ha e_2=>?_;clear hx;subst e_2;refine⟨hlt,ht a ha _ ?_⟩
    cases hc:c a with|true=>
   refine lc_rule (zP hlt) ?_;have k:K (acc++if c a then[.int a]else[]) S:=k;rw[hc]at k;exact k|false=>
   have k:K (acc++if c a then[.int a]else[]) S:=k;rw[hc]at k;exact yS acc▸k
  .show newL (iL l|>.flatMap _) S Q;rw[flat_filter];exact r_newL t hle q
noncomputable def kv1(l:List Int):List (Int×Val):=l.map fun i=>(i,.bool true)
theorem kv1_fst:∀l:List Int,(kv1 l).map (·.1)=l:=by
 intro v;induction v with
 |nil=>
  exact rfl|cons a r ih=>
  show a::(kv1 r).map (·.1)=_;rw[ih]
theorem tidy_loop(hall:all.length<=3)(da:DA all)(h0:∀x∈all,x≠0)(hv:∀S',FrT 1 S0 S'->S'.seqOf v=some (iL all)){Q:SQ}:∀(rest done:List Int)(x:Option Val)(S:AS),all=done++rest->S.H (.tmp 0 0)=some (n0,.dictI (kv1 done))->FrT 1 S0 S->(∀x S',S'.H (.tmp 0 0)=some (n0,.dictI (kv1 all))->FrT 1 S0 S'->Q .next [some v,some (.loc (.tmp 0 0) n0),x] S')->forO (fun x μ S K=>bindNames [2] x μ fun μ=>wpSts E (.cons (.ifs (.cmp .in_ (.neg (.lc 2)) (.lc 1)) (.cons (.ret .none) .nil) .nil) (.cons (.asg (.sub (.lc 1) (.lc 2)) .tru) .nil)) μ S K) (fun S'=>S'.seqOf v=some (iL all)) (iL rest) [some v,some (.loc (.tmp 0 0) n0),x] S Q:=by
 intro v;induction v with|nil=>
  intro done x S e h F q;exact forO_nil (hv _ F) (q x S (by rw[e,yS];exact h) F)|cons a rest ih=>
  intro done x S e h F q;refine forO_cons (hv _ F) fun K kn _ _ _=>⟨nb rfl,?_⟩;have hlen:done.length<=3:=zE (Nat.le_add_right _ _) (zJ▸e▸hall);have hno:∀b∈done,b.natAbs≠a.natAbs:=fun b hb=>(List.pairwise_append.mp (e▸da:DA (done++a::rest))).2.2 b hb a (zF ..);have hc:done.contains (-a)=false:=by
   cases hh:done.contains (-a)with|false=>rfl|true=>exact absurd (Int.natAbs_neg a) (hno _ (List.contains_iff_mem.mp hh))
  refine in_dictI h (kv1_fst done▸hc) ?_;refine set_dictI h (by rw[kv1,zA];exact lw hlen rfl) ?_;have hput:putI (kv1 done) a (.bool true)=kv1 (done++[a]):=by
   have :(kv1 done).any (fun p=>decide (p.1=a))=false:=List.any_eq_false.mpr fun p hp=>by
    refine xea (yE.mp hp) fun b hb e_2=>?_;clear hp;subst e_2;exact fun z=>hno b hb (zG Int.natAbs (zW z))
   rw[putI,this,kv1,kv1,zV];rfl
  rw[hput];exact kn _ _ (ih (done++[a]) _ _ (e.trans (List.append_cons ..)) put_eq (F.put (by decide) _ _) q)
theorem s_tidy(hd:2<=d)(hv:∀S',FrT 1 S S'->S'.seqOf v=some (iL l))(hl:l.length<=3)(da:DA l)(h0:∀x∈l,x≠0)(q:∀S',FrT 1 S S'->Q (.tup (iL (srtA l))) S'):Y.C d .tidy [v] S Q:=by
 refine Y.run 2 (yU hd) (by decide) rfl ?_;refine⟨.tmp 0 0,.I,?_⟩;have F1:FrT 1 S _:=FrT.refl.alloc (i:=0) (n:=0) (by decide) (.dictI []);have h1:(S.alloc (.tmp 0 0) (.dictI [])).H (.tmp 0 0)=some (S.n,.dictI (kv1 [])):=alloc_eq;refine⟨nb rfl,?_⟩;change wpSts _ _ _ (S.alloc (.tmp 0 0) (.dictI [])) _;generalize hn:S.n=n0 at h1⊢;generalize S.alloc _ _=S1 at F1 h1⊢;refine⟨_,hv _ F1,ml l (lw hl rfl),tidy_loop hl da h0 hv l [] none S1 rfl h1 F1 fun x S' h F=>?_⟩;refine sorted_dict (e:=.lc 1) (μ:=[some v,some (.loc (.tmp 0 0) n0),x]) (l:=l) (fun Q q=>q) h (kv1_fst l) hl da (fun x hx=>s_order_of Y (d:=d-1) (yH hd) ⟨⟨_,rfl⟩,rfl⟩) (.tmp 0 1) ?_;exact⟨_,seqOf_loc alloc_eq,ml _ ((srtA_perm l).length_eq▸lw hl rfl),q _ (F.alloc (by decide) _)⟩
theorem res_tail{u:Int}{w:Option Val}{Q:SQ}{j:Nat}{T1 T2:X}{nc1 nc2:NC}(hl:one.length<=3)(hi:[some (.tup (iL one)),some (.tup (iL [u])),w,none,none,none,none,none][i]?=some (none:Option Val))(hj:∀z,[some (.tup (iL one)),some (.tup (iL [u])),w,some z,none,none,none,none][j]?=some (none:Option Val))(h1:∀x S(K:Bool->AS->Prop),K (decide (x≠-u)) S->wpX E T1 ([some (.tup (iL one)),some (.tup (iL [u])),w,none,none,none,none,none].set i (some (.int x))) S fun v S=>onB v fun b=>K b S)(h2:∀z x S(K:Bool->AS->Prop),K (decide (x≠u)) S->wpX E T2 ([some (.tup (iL one)),some (.tup (iL [u])),w,some z,none,none,none,none].set j (some (.int x))) S fun v S=>onB v fun b=>K b S)(q:∀S1 n,FrT 2 S S1->S1.H (.tmp 1 0)=some (n,.list (iL (one.filter fun x=>x≠-u)))->Q .next [some (.tup (iL one)),some (.tup (iL [u])),w,some (.loc (.tmp 1 0) n),none,none,none,none] S1):wpSts E (.cons (.asg (.nm 3) (.comp (.lc i) [i] (.of (.lc 0)) (.cons T1 .nil) nc1)) (.cons (.ex (.ext (.lc 3) (.comp (.lc j) [j] (.of (.lc 1)) (.cons T2 .nil) nc2))) .nil)) [some (.tup (iL one)),some (.tup (iL [u])),w,none,none,none,none,none] S Q:=by
 refine filt_rule (E:=E) (i:=i) (src:=.lc 0) (test:=T1) (nc:=nc1) (l:=one) (c:=fun x=>x≠-u) hi (fun Q q=>q) rfl (lw hl rfl) (fun x hx K k=>h1 x _ K k) (.tmp 1 0) ⟨nb rfl,?_⟩;have F1:FrT 2 S _:=FrT.refl.alloc (i:=1) (n:=0) (by decide) (.list (iL (one.filter fun x=>x≠-u)));have h1:(S.alloc (.tmp 1 0) (.list (iL (one.filter fun x=>x≠-u)))).H (.tmp 1 0)=some (S.n,.list (iL (one.filter fun x=>x≠-u))):=alloc_eq;generalize hn:S.n=n0 at h1⊢;generalize S.alloc _ _=S1 at F1 h1⊢;refine⟨⟨_,_,_,rfl,h1⟩,?_⟩;refine filt_rule (E:=E) (i:=j) (src:=.lc 1) (test:=T2) (nc:=nc2) (l:=[u]) (c:=fun x=>x≠u) (hj _) (fun Q q=>q) rfl (nb rfl) (fun x hx K k=>h2 _ x _ K k) (.tmp 1 1) ?_;have F2:=F1.alloc (i:=1) (n:=1) (by decide) (.list (iL ([u].filter fun x=>x≠u)));have h12:(S1.alloc (.tmp 1 1) (.list (iL ([u].filter fun x=>x≠u)))).H (.tmp 1 0)=_:=(alloc_nu (by decide)).trans h1;have h22:(S1.alloc (.tmp 1 1) (.list (iL ([u].filter fun x=>x≠u)))).H (.tmp 1 1)=some (S1.n,.list []):=alloc_eq.trans (by rw[List.filter_cons_of_neg (by simp)];rfl);generalize S1.alloc _ _=S2 at F2 h12 h22⊢;refine r_ext h12 h22 (by decide) (by rw[zA,List.length_nil,Nat.add_zero];exact zE (List.length_filter_le _ one) (lw hl rfl)) ?_;exact q _ _ (F2.put (by decide) _ _) (put_eq.trans (by rw[yS]))
theorem s_resolve(hd:3<=d){u:Int}(sa:SA one)(hl:one.length<=3)(h0:∀x∈one,x≠0)(hu:-u∈one)(q:∀S',FrT 2 S S'->Q (.tup (iL (one.filter fun x=>x≠-u))) S'):Y.C d .resolve_on [.tup (iL one),.tup (iL [u]),.int u.natAbs] S Q:=by
 refine Y.run 5 (zE (by decide) hd) (by decide) rfl ?_;have hu0:u≠0:=fun e=>h0 _ hu (by rw[e];rfl);have hnu:u∉one:=fun h=>by
  obtain⟨a,ha,ea⟩:=List.mem_iff_getElem.mp hu;obtain⟨b,hb,eb⟩:=List.mem_iff_getElem.mp h;have :=List.pairwise_iff_getElem.mp sa;rcases Nat.lt_trichotomy a b with c|c|c;.exact Nat.ne_of_lt (this a b ha hb c) (by rw[ea,eb,Int.natAbs_neg])
  .subst c;have :=ea.symm.trans eb;exact(Int.lt_or_gt_of_ne hu0).elim (fun a=>lZ 0x7828245020156014402018080650202 tT this a) fun a=>lZ 0x782824501027f7f55014402018080650202 tT this a
  .exact Nat.ne_of_lt (this b a hb ha c) (by rw[ea,eb,Int.natAbs_neg])
 have fin:∀(S1:AS)(n:Nat),FrT 2 S S1->S1.H (.tmp 1 0)=some (n,.list (iL (one.filter fun x=>x≠-u)))->∀w:Val,wpSts (Y.E (d-1)) (.cons (.ret (.call .tidy (.cons (.lc 3) .nil))) .nil) [some (.tup (iL one)),some (.tup (iL [u])),some w,some (.loc (.tmp 1 0) n),none,none,none,none] S1 (retQ Q):=fun S1 n F1 h1 w=>by
  have hsa:SA (one.filter fun x=>x≠-u):=List.Pairwise.filter _ sa;refine s_tidy Y (d:=d-1) (yH hd) (l:=one.filter fun x=>x≠-u) (fun S' F=>seqOf_loc ((F (.tmp 1 0) (by decide)).trans h1)) (zE (List.length_filter_le _ _) hl) hsa.da (fun x hx=>h0 x (yM.mp hx).1) fun S' F=>?_;rw[srtA_id hsa];exact q _ (F1.trans (F.up (by decide)))
 have dn:∀x y:Int,(x==y)=!decide (x≠y):=fun x y=>by by_cases h:x=y<;>simp[h]
 rcases Int.lt_or_gt_of_ne hu0 with c|c
 .have e1:(u.natAbs:Int)=-u:=zT (Int.le_of_lt c);rw[e1];refine in_tints ?_;rw[decide_eq_true hu];refine in_tints (l:=[u]) ?_;rw[Int.neg_neg,decide_eq_true (zD.mpr rfl)];refine res_tail (i:=4) (j:=5) (nc1:=[]) (nc2:=[]) hl rfl (fun _=>rfl) (fun x S K k=>r_ne _ (dn _ _) k) (fun z x S K k=>r_ne _ (dn _ _) ((Int.neg_neg u).symm▸k)) fun S1 n F h=>fin _ _ F h _
 .have e1:(u.natAbs:Int)=u:=zY (Int.le_of_lt c);rw[e1];refine in_tints ?_;rw[yR hnu];refine in_tints ?_;rw[decide_eq_true hu];refine in_tints (l:=[u]) ?_;rw[decide_eq_true (zD.mpr rfl)];refine res_tail (i:=6) (j:=7) (nc1:=[]) (nc2:=[]) hl rfl (fun _=>rfl) (fun x S K k=>r_ne _ (dn _ _) k) (fun z x S K k=>r_ne _ (dn _ _) k) fun S1 n F h=>fin _ _ F h _
theorem getP{x:Val}(h:HasX Z S k g p j)(n1:¬Z .proof)(e:pattrs k g a=some x)(q:Q x S):attrGet (lo k g .proof) a S Q:=by
 exact .mk rfl (h.at .proof rfl n1) rfl e q
theorem s_p_size(hd:1<=d)(h:HasX Z S k g p j)(n1:¬Z .proof)(n2:¬Z .psteps)(hs:p.ps.length<=999)(q:Q (.int p.ps.length) S):Y.C d .p_size [lo k g .proof] S Q:=by
 exact Y.run 0 hd (by decide) rfl (getP (a:=.steps) h n1 rfl (len_list (h.at .psteps rfl n2) (zA (as:=p.ps) PS.val▸hs) ((zA (as:=p.ps) PS.val).symm▸q)))
theorem val_get(st:PS)(q:Q (.tup (iL st.cl)) S):itemGet st.val (.int 1) S Q:=by
 cases st<;>exact get_tup (n:=1) (by simp) rfl rfl q
theorem s_p_clause(hd:1<=d)(h:HasX Z S k g p j)(n1:¬Z .proof)(n2:¬Z .psteps)(hs:p.ps.length<=999){i:Int}(hi:i=n)(hn:p.ps[n]?=some st)(q:Q (.tup (iL st.cl)) S):Y.C d .p_clause [lo k g .proof,.int i] S Q:=by
 exact Y.run 0 hd (by decide) rfl (getP (a:=.steps) h n1 rfl (get_val (h.at .psteps rfl n2) (zA (as:=p.ps) PS.val▸hs) hi (by rw[zX,hn];rfl) (val_get st q)))
theorem rule_in{x:Str}(hx:x="input"\/x="resolve")(q:Q (.bool false) S):inOp true (.str x) (.tup [.str "input",.str "define",.str "ite_term",.str "three",.str "bits",.str "congruence",.str "farkas",.str "branch",.str "divide",.str "cut",.str "resolve"]) S Q:=by
  refine .tup rfl ⟨.str x,_,rfl,rfl,?_,by decide+kernel,?_⟩;.rcases hx with rfl|rfl<;>decide+kernel
  . have :(([.str "input",.str "define",.str "ite_term",.str "three",.str "bits",.str "congruence",.str "farkas",.str "branch",.str "divide",.str "cut",.str "resolve"]:List PyData).any fun e=>PyData.eqv e (.str x))=true:=by
      rcases hx with rfl|rfl<;>decide+kernel
    rw[this];exact q
theorem glb6:glbV "RULES"=some (.tup [.str "input",.str "define",.str "ite_term",.str "three",.str "bits",.str "congruence",.str "farkas",.str "branch",.str "divide",.str "cut",.str "resolve"]):=by
 unfold glbV;rw[zN (by decide),zN (by decide),zN (by decide),zN (by decide),zN (by decide),zU rfl]
theorem r_between{j:Nat}{c:Int}(hi:μ[i]?=some (some (.int b)))(hj:μ[j]?=some (some (.int c)))(h1:0<=b)(h2:b<c)(q:Q (.bool false) S):wpX E (.not (.cmp2 (.int 0) .le (.lc i) .lt (.lc j))) μ S Q:=by
 rw[wx_not,wx_cmp2,wx_int];exact lc_rule hi (.mk rfl rfl (zG some (decide_eq_true h1)) (fun _=>lc_rule hj (.mk rfl rfl (zG some (decide_eq_true h2)) q)) nofun)
theorem prem_loop{a b c e m:Option Val}{prs:List Val}{Q:SQ}(q:∀x,Q .next [a,b,c,e,m,some (.int N),x] S):∀(pr:List Int)(x:Option Val),(∀y∈pr,0<=y/\y<N)->forO (fun x μ S K=>bindNames [6] x μ fun μ=>wpSts E (.cons (.ifs (.not (.cmp2 (.int 0) .le (.lc 6) .lt (.lc 5))) (.cons .boom .nil) .nil) .nil) μ S K) (fun S'=>S'.seqOf (.tup prs)=some prs) (iL pr) [a,b,c,e,m,some (.int N),x] S Q:=by
 intro v;induction v with|nil=>
  intro x _;exact forO_nil rfl (q x)|cons y r ih=>
  intro x hp;refine forO_cons rfl fun K kn _ _ _=>⟨nb rfl,?_⟩;have h:=hp y (zF ..);refine s_if (r_between (E:=E) (i:=6) (j:=5) (μ:=[a,b,c,e,m,some (.int N),some (.int y)]) rfl rfl h.1 h.2 ?_);exact kn _ _ (ih _ fun z hz=>hp z (zI _ hz))
theorem s_p_add(hd:2<=d)(h:HasX Z S k g p j)(n1:¬Z .proof)(n2:¬Z .psteps)(hs:p.ps.length<=900){x:Str}{pr:List Int}{note:Val}(hx:x="input"\/x="resolve")(sa:SA c)(h0:∀y∈c,y≠0)(hc:c≠[])(hcl:c.length<=900)(hpl:pr.length<=900)(hpr:∀y∈pr,0<=y/\y<(p.ps.length:Int))(hst:st.val=.tup [.str x,.tup (iL c),.tup (iL pr),note])(q:∀S',HasX Z S' k g (p.sPs (p.ps++[st])) j->Fr D0 k 0 S S'->Q (.int p.ps.length) S'):Y.C d .p_add [lo k g .proof,.str x,.tup (iL c),.tup (iL pr),note] S Q:=by
 refine Y.run 2 (yU hd) (by decide) rfl ?_;have hd':1<=d-1:=yH hd;have hm:(p.ps.map PS.val).length=p.ps.length:=zA _;refine getP (a:=.steps) h n1 rfl (len_list (h.at .psteps rfl n2) (hm▸lw hs rfl) ⟨nb rfl,?_⟩);refine r_gl glb6 (rule_in hx ?_);refine s_is_tidy Y hd' sa h0 hcl ?_;refine⟨_,rfl,ml pr (lw hpl rfl),hm▸prem_loop (fun y=>?_) pr none hpr⟩;refine getP (a:=.steps) h n1 rfl ⟨⟨_,_,_,rfl,h.at .psteps rfl n2⟩,?_⟩;refine⟨_,rfl,ml c (lw hcl rfl),_,rfl,ml pr (lw hpl rfl),nb rfl,?_⟩;refine r_app (h.at .psteps rfl n2) (hm▸hs) ?_;have H1:=h.pPs (p.ps++[st]);have F1:Fr D0 k 0 S _:=Fr.refl.put (x:=.psteps) id (g.v .psteps) (.list ((p.ps++[st]).map PS.val));rw[zV,List.map_cons,List.map_nil,hst]at H1 F1;generalize S.put _ _ _=S1 at H1 F1⊢;refine len_tints (lw hcl rfl) ?_;exact r_eq false (zQ.mpr fun z=>hc (List.length_eq_zero_iff.mp (Int.ofNat.inj z))) (q _ H1 F1)
theorem mem2{P:Nat->Prop}{j:Nat}(a:P i)(b:P j):∀x∈[i,j],P x:=fun x hx=>(zL.mp hx).elim (fun e=>e▸a) fun h=>zD.mp h▸b
noncomputable def prV(x:Int×Nat):Val:=.tup [.int x.1.natAbs,.int x.2]
noncomputable def red(c:List Int)(l:List (Int×Nat)):List Int:=l.foldl (fun c x=>c.filter fun y=>y≠x.1) c
noncomputable def redOk(ps:List PS):List Int->List (Int×Nat)->Prop|_,[]=>True|c,x::r=>x.1∈c/\(∃st,ps[x.2]?=some st/\st.cl=[-x.1])/\redOk ps (c.filter fun y=>y≠x.1) r
theorem red_sub:∀(l:List (Int×Nat))(c:List Int),(red c l).Sublist c:=by
 intro v;induction v with|nil=>
  intro c;exact List.Sublist.refl c|cons x r ih=>
  intro c;exact(ih _).trans List.filter_sublist
theorem is_none_tup{neg:Bool}{l:List Val}(q:Q (.bool (false^^neg)) S):isOp neg (.tup l) .none S Q:=⟨rfl,false,rfl,q⟩
theorem chain_loop{first:Val}{all:List (Int×Nat)}(hd:4<=d)(hps:p.ps.length<=900){Q:SQ}(hv:∀S',FrT 3 S0 S'->S'.seqOf pairs=some (all.map prV)):∀(rest:List (Int×Nat))(c:List Int)(x y m6:Option Val)(S:AS),SA c->c.length<=3->(∀y∈c,y≠0)->redOk p.ps c rest->HasG S k g p j->FrT 3 S0 S->(∀x y S',HasG S' k g p j->FrT 3 S0 S'->Q .next [some (lo k g .proof),some first,some pairs,some (.tup (iL (red c rest))),x,y,none,none,none,none,none] S')->forO (fun x μ S K=>bindNames [4,5] x μ fun μ=>wpSts (Y.E (d-1)) (.cons (.asg (.nm 3) (.call .resolve_on (.cons (.lc 3) (.cons (.meth (.lc 0) .p_clause (.cons (.lc 5) .nil)) (.cons (.lc 4) .nil))))) (.cons (.ifs (.cmp .is_ (.lc 3) .none) (.cons .boom .nil) .nil) .nil)) μ S K) (fun S'=>S'.seqOf pairs=some (all.map prV)) (rest.map prV) [some (lo k g .proof),some first,some pairs,some (.tup (iL c)),x,y,none,none,none,none,none] S Q:=by
 intro v;induction v with|nil=>
  intro c x y m6 S sa hl h0 ok H F q;exact forO_nil (hv _ F) (q x y S H F)|cons a r ih=>
  intro c x y m6 S sa hl h0 ok H F q;refine xa2 ok fun ha q_1 hr=>?_;refine xea q_1 fun st hst hcl=>?_;refine forO_cons (hv _ F) fun K kn _ _ _=>⟨_,rfl,rfl,mem2 (nb rfl) (nb rfl),?_⟩;refine⟨H.instP id rfl,s_p_clause Y (d:=d-1) (zE (by decide) (Nat.sub_le_sub_right hd 1)) H id id (lw hps rfl) rfl hst ?_⟩;rw[hcl];have hs:=s_resolve Y (d:=d-1) (S:=S) (Q:=fun v S=>wpTg (Y.E (d-1)) (.nm 3) v [some (lo k g .proof),some first,some pairs,some (.tup (iL c)),some (.int a.1.natAbs),some (.int a.2),none,none,none,none,none] S fun μ S=>wpSts (Y.E (d-1)) (.cons (.ifs (.cmp .is_ (.lc 3) .none) (.cons .boom .nil) .nil) .nil) μ S K) (Nat.sub_le_sub_right hd 1) (one:=c) (u:=-a.1) sa hl h0 (by rw[Int.neg_neg];exact ha) fun S' F'=>?_;.rw[Int.natAbs_neg]at hs;exact hs
  rw[Int.neg_neg];refine⟨nb rfl,is_none_tup ?_⟩;exact kn _ _ (ih _ _ _ m6 S' (List.Pairwise.filter _ sa) (zE (List.length_filter_le _ _) hl) (fun y hy=>h0 y (yM.mp hy).1) hr (H.frT F') (F.trans (F'.up (by decide))) q)
theorem flatMap_one{β:Type}(f:α->β):∀l:List α,l.flatMap (fun v=>[f v])=l.map f:=by
 intro v;induction v with
 |nil=>
  exact rfl|cons a r ih=>
  rw[List.flatMap_cons,ih];rfl
theorem bin_rule{op:BOp}{l r:X}{a:Val}(hl:∀Q:VQ,Q a S->wpX E l μ S Q)(h:wpX E r μ S fun y S=>binOp op a y S Q):wpX E (.bin op l r) μ S Q:=by
 exact hl _ h
theorem toT_rule(h:wpX E e μ S fun v S=>∃xs,S.seqOf v=some xs/\xs.length<=1000/\Q (.tup xs) S):wpX E (.toTuple e) μ S Q:=by
 exact h
theorem comp_map{is:List Nat}{src elt:X}{items:List Val}(f:Val->Val)(hi:∀i∈is,μ[i]?=some none)(he:∀Q:VQ,Q v S->wpX E src μ S Q)(hv:S.seqOf v=some items)(hl:items.length<=900)(ht:∀x∈items,∀K:VQ,K (f x) S->bindNames is x μ fun μ'=>wpX E elt μ' S K)(t:Tag)(q:Q (.loc t S.n) (S.alloc t (.list (items.map f)))):wpX E (.comp elt is (.of src) .nil nc) μ S Q:=by
 refine⟨hi,he _ ⟨_,hv,lw hl rfl,?_⟩⟩;have e:=flatMap_one f items;have hle:(items.map f).length<=1000:=(zA (as:=items) f).symm▸lw hl rfl;refine compO_pure (fun v=>[f v]) hv (fun x hx acc K k=>ht x hx _ k) (e▸hle) ?_;show newL (items.flatMap _) S Q;rw[e];exact r_newL t hle q
theorem redOk_lt{a:Int×Nat}(l:List (Int×Nat)):∀(c:List Int),redOk ps c l->a∈l->a.2<ps.length:=by
 induction l with|nil=>exact fun _ _ h=>nomatch h|cons b r ih=>exact fun c h ha=>(zL.mp ha).elim (fun e=>e▸h.2.1.elim fun st hst=>(zM.mp hst.1).1) (ih _ h.2.2)
theorem prs_map{i' r:Nat}(f:Int×Nat->Int)(fV:Val->Val)(hf:∀a,fV (prV a)=.int (f a))(hi:∀n∈[i,i'],μ[n]?=some none)(hlt:∀n∈[i,i'],n<μ.length)(hp:μ[2]?=some (some pairs))(hv:S.seqOf pairs=some (prs.map prV))(hl:prs.length<=3)(hr:∀a:Int×Nat,(setAll [i,i'] [.int a.1.natAbs,.int a.2] μ)[r]?=some (some (.int (f a))))(t:Tag)(q:Q (.tup (iL (prs.map f))) (S.alloc t (.list (iL (prs.map f))))):wpX E (.toTuple (.comp (.lc r) [i,i'] (.of (.lc 2)) .nil nc)) μ S Q:=by
 have e1:(prs.map prV).map fV=iL (prs.map f):=by
  rw[List.map_map,iL,List.map_map];exact zG (List.map . prs) (funext hf)
 refine toT_rule (comp_map (E:=E) (is:=[i,i']) (src:=.lc 2) (elt:=.lc r) fV hi (fun Q q=>lc_rule hp q) hv (by rw[zA];exact lw hl rfl) (fun z hz K q=>?_) t ?_);.refine xea (yE.mp hz) fun a ha e_2=>?_;clear hz;subst e_2;exact⟨_,rfl,rfl,hlt,lc_rule (hr a) (hf a▸q)⟩
 .rw[e1];exact⟨_,seqOf_loc alloc_eq,ml _ ((zA (as:=prs) f).symm▸lw hl rfl),q⟩
theorem len_seq{l:List Val}(h:S.seqOf v=some l)(hl:l.length<=1000)(q:Q (.int l.length) S):lenOf v S Q:=by
 exact⟨l,h,hl,q⟩
variable{v:Nat}
theorem xs4{s:Str}{j:Nat}{a b:Val}(hi:μ[i]?=some (some a))(hj:μ[j]?=some (some b))(h:wpX E e μ S fun v S=>K [.str s,a,b,v] S):wpXs E (.cons (.str s) (.cons (.lc i) (.cons (.lc j) (.cons e .nil)))) μ S K:=lc_rule (E:=E) (μ:=μ) (i:=i) (S:=S) (Q:=fun v S=>wpX E (.lc j) μ S fun w S=>wpX E e μ S fun u S=>K [.str s,v,w,u] S) hi (lc_rule (E:=E) hj h)
variable{K:SQ}
theorem s_chain(hd:4<=d)(h:HasG S k g p j)(hs:p.ps.length<=890)(hf:p.ps[first]?=some st)(sa:SA st.cl)(hl:st.cl.length<=3)(h0:∀y∈st.cl,y≠0)(ok:redOk p.ps st.cl prs)(hne:prs≠[])(hpl:prs.length<=3)(hfin:red st.cl prs≠[])(hv:∀S',FrT 3 S S'->S'.seqOf pairs=some (prs.map prV))(q:∀S',HasG S' k g (p.sPs (p.ps++[.res (red st.cl prs) ((first:Int)::prs.map fun x=>(x.2:Int)) (prs.map fun x=>(x.1.natAbs:Int))])) j->Fr D0 k 3 S S'->Q (.int p.ps.length) S'):Y.C d .p_chain [lo k g .proof,.int first,pairs] S Q:=by
  refine Y.run 8 (zE (by decide) hd) (by decide) rfl ?_;have hd':3<=d-1:=Nat.sub_le_sub_right hd 1;have hpv:(prs.map prV).length=prs.length:=zA _;refine⟨h.instP id rfl,s_p_clause Y (d:=d-1) (zE (by decide) hd') h id id (lw hs rfl) rfl hf ?_⟩;refine⟨nb rfl,?_⟩;refine⟨_,hv _ FrT.refl,hpv▸lw hpl rfl,chain_loop Y hd (lw hs rfl) hv prs st.cl none none none S sa hl h0 ok h FrT.refl fun x y S1 H F=>?_⟩;refine len_seq (hv _ F) (hpv▸lw hpl rfl) ?_;refine r_eq false (zQ.mpr fun z=>hne (List.length_eq_zero_iff.mp (hpv.symm.trans (Int.ofNat.inj z)))) ?_;refine s_asg (bin_rule (a:=.tup [.int first]) (fun Q q=>⟨nb rfl,q⟩) ?_);refine prs_map (μ:=[some (lo k g .proof),some (.int first),some pairs,some (.tup (iL (red st.cl prs))),x,y,none,none,none,none,none]) (i:=7) (i':=8) (r:=8) (fun x=>(x.2:Int)) (fun v=>match v with|.tup [_,b]=>b|_=>.none) (fun _=>rfl) (mem2 rfl rfl) (mem2 (nb rfl) (nb rfl)) rfl (hv _ F) hpl (fun _=>rfl) (.tmp 2 0) ?_;refine⟨rfl,?_,nb rfl,?_⟩;.rw[zA,zA];exact zE (Nat.add_le_add_left hpl _) (nb rfl)
  have F2:=F.alloc (i:=2) (n:=0) (by decide) (.list (iL (prs.map fun x=>(x.2:Int))));have H2:HasG _ k g p j:=H.frT (FrT.refl.alloc (l:=3) (i:=2) (n:=0) (by decide) (.list (iL (prs.map fun x=>(x.2:Int)))));generalize S1.alloc _ _=S2 at F2 H2⊢;refine⟨H2.instP id rfl,?_⟩;refine xs4 rfl rfl ?_;refine prs_map (μ:=[some (lo k g .proof),some (.int first),some pairs,some (.tup (iL (red st.cl prs))),x,y,some _,none,none,none,none]) (i:=9) (i':=10) (r:=9) (fun x=>(x.1.natAbs:Int)) (fun v=>match v with|.tup [a,_]=>a|_=>.none) (fun _=>rfl) (mem2 rfl rfl) (mem2 (nb rfl) (nb rfl)) rfl (hv _ F2) hpl (fun _=>rfl) (.tmp 2 1) ?_;have F3:=F2.alloc (i:=2) (n:=1) (by decide) (.list (iL (prs.map fun x=>(x.1.natAbs:Int))));have H3:HasG _ k g p j:=H2.frT (FrT.refl.alloc (l:=3) (i:=2) (n:=1) (by decide) (.list (iL (prs.map fun x=>(x.1.natAbs:Int)))));generalize S2.alloc _ _=S3 at F3 H3⊢;have hs':=red_sub prs st.cl;refine s_p_add Y (d:=d-1) (zE (by decide) hd') H3 id id (lw hs rfl) (c:=red st.cl prs) (pr:=(first:Int)::prs.map fun x=>(x.2:Int)) (st:=.res (red st.cl prs) ((first:Int)::prs.map fun x=>(x.2:Int)) (prs.map fun x=>(x.1.natAbs:Int))) (.inr rfl) (List.Pairwise.sublist hs' sa) (fun y hy=>h0 y (hs'.subset hy)) hfin (zE hs'.length_le (lw hl rfl)) ?_ (fun y hy=>?_) rfl fun S4 H4 F4=>q _ H4 ((F3.fr).trans (F4.up (yA _) fun _=>id));.rw[List.length_cons,zA];exact zE (Nat.succ_le_succ hpl) (nb rfl)
  . rcases zL.mp hy with rfl|hy;.exact⟨Int.natCast_nonneg _,Int.ofNat_lt.mpr (zM.mp hf).1⟩
    .refine xea (yE.mp hy) fun a ha e_2=>?_;clear hy;subst e_2;exact⟨Int.natCast_nonneg _,Int.ofNat_lt.mpr (redOk_lt _ _ ok ha)⟩
theorem pys_prs:∀l:List (Int×Nat),pys (l.map prV)=some (l.map fun x=>.tuple [.int x.1.natAbs,.int x.2]):=by
 intro v;induction v with
 |nil=>
  exact rfl|cons a r ih=>
  rw[List.map_cons,pys,ih];rfl
theorem lay_prs:∀l:List (Int×Nat),PyData.canLayAll0 (l.map fun x=>.tuple [.int x.1.natAbs,.int x.2])=true:=by
 intro v;induction v with
 |nil=>
  exact rfl|cons a r ih=>
  simp[PyData.canLayAll0,PyData.canLay0,ih]
theorem dep_prs:∀l:List (Int×Nat),PyData.depthAll (l.map fun x=>.tuple [.int x.1.natAbs,.int x.2])<=2:=by
 intro v;induction v with
 |nil=>
  simp[PyData.depthAll]|cons a r ih=>
  simp[PyData.depthAll,PyData.depth];have :=ih;lia
theorem log_test{K:VQ}{a b c:Option Val}(h:HasG S k g p j)(hp:S.H (.tmp 3 0)=some (n,.list (prs.map prV)))(q:∀S',FrT 3 S S'->K (.bool prs.isEmpty) S'):wpX E (.or (.cmp .is_ (.at (.lc 0) .proof) .none) (.cmp .eq (.lc 3) (.lst .nil))) [some (lo k g .core),a,b,some (.loc (.tmp 3 0) n),c] S K:=by
 refine h.get (a:=.proof) id rfl (r_is (b:=false) rfl ?_);refine r_newL (.tmp 2 5) (yA _) ?_;have F:FrT 3 S _:=FrT.refl.alloc (i:=2) (n:=5) (by decide) (.list []);refine eqNil (l:=prs.map prV) ((F (.tmp 3 0) (by decide)).trans hp) (pys_prs prs) (lay_prs prs) (zE (dep_prs prs) (by decide)) alloc_eq ?_;rw[List.isEmpty_map,Bool.xor_false];exact q _ F
theorem s_log0(hd:5<=d)(h:HasG S k g p j){c:Val}{first:Int}(hp:S.H (.tmp 3 0)=some (n,.list []))(q:∀S',HasG S' k g p j->Fr D0 k 3 S S'->Q (.int first) S'):Y.C d .s_log [lo k g .core,c,.int first,.loc (.tmp 3 0) n] S Q:=by
 refine Y.run 1 (zE (by decide) hd) (by decide) rfl ?_;exact s_if (log_test (prs:=[]) h hp fun S' F=>q _ (h.frT F) F.fr)
theorem s_log1(hd:5<=d)(h:HasG S k g p j)(hs:p.ps.length<=890)(hf:p.ps[first]?=some st)(sa:SA st.cl)(hl:st.cl.length<=3)(h0:∀y∈st.cl,y≠0)(ok:redOk p.ps st.cl prs)(hne:prs≠[])(hpl:prs.length<=3)(hc:red st.cl prs=c)(hfin:c≠[])(hp:S.H (.tmp 3 0)=some (n,.list (prs.map prV)))(q:∀S',HasG S' k g (p.sPs (p.ps++[.res c ((first:Int)::prs.map fun x=>(x.2:Int)) (prs.map fun x=>(x.1.natAbs:Int))])) j->Fr D0 k 3 S S'->Q (.int p.ps.length) S'):Y.C d .s_log [lo k g .core,.tup (iL c),.int first,.loc (.tmp 3 0) n] S Q:=by
 refine Y.run 1 (zE (by decide) hd) (by decide) rfl ?_;have hd':4<=d-1:=Nat.sub_le_sub_right hd 1;refine s_if (log_test (prs:=prs) h hp fun S1 F=>?_);rw[List.isEmpty_eq_false_iff.mpr hne];have H1:=h.frT F;refine H1.get (a:=.proof) id rfl ⟨H1.instP id rfl,?_⟩;refine s_chain Y (d:=d-1) hd' H1 hs hf sa hl h0 ok hne hpl (hc▸hfin) (fun S' F'=>seqOf_loc ((F' (.tmp 3 0) (by decide)).trans ((F (.tmp 3 0) (by decide)).trans hp))) fun S2 H2 F2=>?_;rw[hc]at H2;refine⟨nb rfl,?_⟩;refine H2.get (a:=.proof) id rfl ⟨H2.instP id rfl,?_⟩;refine s_p_clause Y (d:=d-1) (zE (by decide) hd') H2 id id ?_ rfl (n:=p.ps.length) (st:=.res c ((first:Int)::prs.map fun x=>(x.2:Int)) (prs.map fun x=>(x.1.natAbs:Int))) List.getElem?_concat_length ?_
 .show(p.ps++[_]).length<=999;rw[zJ];exact zE (Nat.add_le_add_right hs 1) (nb rfl)
 refine eqTup (a:=c) (b:=c) ?_;rw[decide_eq_true rfl];exact q _ H2 (F.fr.trans F2)
structure RStep(p:P)(r:Nat)(lit:Int)(n f:Nat)(l:List Int)(prs:List (Int×Nat))(st:PS):Prop where
 rt:p.rt=r
 tr:p.tr[r]?=some lit
 rea:p.rea[lit.natAbs]?=some (n:Int)
 cl:p.cl[n]?=some l
 da:DA l
 len:l.length<=3
 z:∀y∈l,y≠0
 hprs:prs.map (·.1)=(srtA l).filter fun y=>y≠lit
 us:∀x∈prs,p.us[x.1.natAbs]?=some (some (x.2:Int))
 ul:lit.natAbs<p.us.length
 sp:p.sp[n]?=some (f:Int)
 ps:p.ps[f]?=some st
 stc:st.cl=srtA l
 ok:redOk p.ps (srtA l) prs
 fin:red (srtA l) prs=[lit]
structure RSz(p:P):Prop where
 tr:p.tr.length<=900
 rea:p.rea.length<=900
 us:p.us.length<=900
 cl:p.cl.length<=900
 sp:p.sp.length<=900
 ps:p.ps.length<=800
noncomputable def rootP(p:P)(r:Nat)(lit:Int)(f:Nat)(prs:List (Int×Nat)):P:=if prs=[]then((p.sUs (p.us.set lit.natAbs (some (f:Int)))).sRt (r+1))else(((p.sPs (p.ps++[.res [lit] ((f:Int)::prs.map fun x=>(x.2:Int)) (prs.map fun x=>(x.1.natAbs:Int))])).sUs (p.us.set lit.natAbs (some (p.ps.length:Int)))).sRt (r+1))
inductive Rt(v:Nat):P->P->Prop|done{p:P}{s:Int}:p.us[v]?=some (some s)->RSz p->Rt v p p|step{p p':P}{r:Nat}{lit:Int}{n f:Nat}{l:List Int}{prs:List (Int×Nat)}{st:PS}:p.us[v]?=some none->RSz p->RStep p r lit n f l prs st->Rt v (rootP p r lit f prs) p'->Rt v p p'
theorem idx_lt{l:List α}{x:α}(h:l[i]?=some x):i<l.length:=by
 rcases Nat.lt_or_ge i l.length with h1|h1;.exact h1
 .rw[yJ h1]at h;cases h
theorem pairs_loop{v:Option Val}{number:Option Val}(hus:p.us.length<=900){Q:SQ}:∀(rest:List Int)(done prs:List (Int×Nat))(x:Option Val)(S:AS),prs.map (·.1)=rest.filter (fun y=>y≠lit)->done.length+prs.length<=3->(∀x∈prs,p.us[x.1.natAbs]?=some (some (x.2:Int)))->HasG S k g p j->S.H (.tmp 3 0)=some (n0,.list (done.map prV))->Fr D0 k 4 S0 S->(∀x S',HasG S' k g p j->S'.H (.tmp 3 0)=some (n0,.list ((done++prs).map prV))->Fr D0 k 4 S0 S'->Q .next [some (lo k g .core),v,some (.int lit),number,some (.loc (.tmp 3 0) n0),x] S')->forO (fun x μ S K=>bindNames [5] x μ fun μ=>wpSts E (.cons (.ifs (.cmp .ne (.lc 5) (.lc 2)) (.cons (.ex (.app (.lc 4) (.tup (.cons (.abs (.lc 5)) (.cons (.sub (.at (.lc 0) .unit_steps) (.abs (.lc 5))) .nil))))) .nil) .nil) .nil) μ S K) (fun S'=>S'.seqOf (.tup (iL all))=some (iL all)) (iL rest) [some (lo k g .core),v,some (.int lit),number,some (.loc (.tmp 3 0) n0),x] S Q:=by
 intro v;induction v with|nil=>
  intro done prs x S hp hl hu H h0 F q;refine forO_nil rfl (q x S H ?_ F);have :prs=[]:=List.map_eq_nil_iff.mp hp;rw[this,yS];exact h0|cons a r ih=>
  intro done prs x S hp hl hu H h0 F q;refine forO_cons rfl fun K kn _ _ _=>⟨nb rfl,?_⟩;by_cases c:a=lit
  .refine r_ne false (yG.mpr c) (kn _ _ (ih done prs _ S ?_ hl hu H h0 F q));rw[hp,List.filter_cons,zN (by simp[c])]
  .refine r_ne true (zQ.mpr c) ?_;rw[List.filter_cons,zU (decide_eq_true c)]at hp;cases prs with|nil=>cases hp|cons b q'=>
   have hb:=(List.cons.inj hp).1;clear c;subst hb;replace hp:=(List.cons.inj hp).2;refine⟨⟨_,_,_,rfl,h0⟩,?_⟩;refine H.get (a:=.unit_steps) id rfl ?_;refine get_val (H.at .usteps rfl id) ((zA (as:=p.us) oval).symm▸lw hus rfl) rfl (y:=.int b.2) (by rw[zX,hu b (zF ..)];rfl) ?_;refine⟨nb rfl,r_app h0 ((zA (as:=done) prV).symm▸lw (zE (Nat.le_add_right _ _) hl) rfl) ?_⟩;refine kn _ _ (ih (done++[b]) q' _ _ hp (by rw[zJ,Nat.add_assoc,Nat.add_comm [b].length];exact hl) (fun x hx=>hu x (zI _ hx)) (H.frT (FrT.refl.put (l:=4) (i:=3) (n:=0) (by decide) _ _)) (put_eq.trans (by rw[zV];rfl)) (F.trans (FrT.refl.put (l:=4) (i:=3) (n:=0) (by decide) _ _).fr) ?_);intro x S' H' h' F';exact q x S' H' (h'.trans (by rw[List.append_assoc];rfl)) F'
theorem unit_loop(hd:6<=d)(hr:Rt v p p'):∃n,∀(S:AS)(x2 x3 x4 x5:Option Val)(Q:SQ),HasG S k g p j->(∀x2 x3 x4 x5 S',HasG S' k g p' j->Fr D0 k 4 S S'->Q .next [some (lo k g .core),some (.int v),x2,x3,x4,x5] S')->whO (wpB (Y.E (d-1)) (.cmp .is_ (.sub (.at (.lc 0) .unit_steps) (.lc 1)) .none)) (wpSts (Y.E (d-1)) (.cons (.asg (.nm 2) (.sub (.at (.lc 0) .trail) (.at (.lc 0) .rooted))) (.cons (.asg (.nm 3) (.sub (.at (.lc 0) .reasons) (.abs (.lc 2)))) (.cons (.asg (.nm 4) (.lst .nil)) (.cons (.for_ [5] (.of (.call .clause_of (.cons (.sub (.at (.lc 0) .clauses) (.lc 3)) .nil))) (.cons (.ifs (.cmp .ne (.lc 5) (.lc 2)) (.cons (.ex (.app (.lc 4) (.tup (.cons (.abs (.lc 5)) (.cons (.sub (.at (.lc 0) .unit_steps) (.abs (.lc 5))) .nil))))) .nil) .nil) .nil)) (.cons (.asg (.sub (.at (.lc 0) .unit_steps) (.abs (.lc 2))) (.meth (.lc 0) .s_log (.cons (.tup (.cons (.lc 2) .nil)) (.cons (.sub (.at (.lc 0) .steps) (.lc 3)) (.cons (.lc 4) .nil))))) (.cons (.asg (.at (.lc 0) .rooted) (.bin .add (.at (.lc 0) .rooted) (.int 1))) .nil))))))) n [some (lo k g .core),some (.int v),x2,x3,x4,x5] S Q:=by
 induction hr with|@done p s hs z=>
  refine⟨1,fun S x2 x3 x4 x5 Q H q=>whO_step fun T tf _=>?_⟩;refine H.get (a:=.unit_steps) id rfl ?_;refine get_val (H.at .usteps rfl id) (by rw[zA];exact zE z.us (nb rfl)) rfl (y:=.int s) (by rw[zX,hs];rfl) ?_;exact r_is (b:=false) rfl (tf _ (q _ _ _ _ _ H Fr.refl))|@step p p' r lit n f l prs st hs z st1 hr ih=>
  clear hr;obtain⟨m,ih⟩:=ih;refine⟨m+1,fun S x2 x3 x4 x5 Q H q=>whO_step fun T _ tt=>?_⟩;have big:∀{a:Nat},a<=900->a<=999:=fun h=>zE h (nb rfl);refine H.get (a:=.unit_steps) id rfl ?_;refine get_val (H.at .usteps rfl id) (by rw[zA];exact big z.us) rfl (y:=.none) (by rw[zX,hs];rfl) ?_;refine r_is (b:=true) rfl ?_;refine tt _ fun K kn _ _ _=>?_;refine H.get (a:=.trail) id rfl ?_;refine H.get (a:=.rooted) id rfl ?_;refine get_int (H.at .trail rfl id) (big z.tr) st1.rt st1.tr ?_;refine⟨nb rfl,?_⟩;refine H.get (a:=.reasons) id rfl ?_;refine get_int (H.at .reasons rfl id) (big z.rea) rfl st1.rea ?_;refine⟨nb rfl,?_⟩;refine r_newL (.tmp 3 0) (yA _) ?_;refine⟨nb rfl,?_⟩;have F1:FrT 4 S _:=FrT.refl.alloc (i:=3) (n:=0) (by decide) (.list []);have H1:=H.frT F1;have h1:(S.alloc (.tmp 3 0) (.list [])).H (.tmp 3 0)=some (S.n,.list []):=by rw[alloc_H,zU rfl]
  generalize hn0:S.n=n0 at h1⊢;generalize S.alloc _ _=S1 at F1 H1 h1⊢;show wpSts (Y.E (d-1)) (.cons _ _) [some (lo k g .core),some (.int v),some (.int lit),some (.int n),some (.loc (.tmp 3 0) n0),x5] S1 K;refine H1.get (a:=.clauses) id rfl ?_;have hnl:=idx_lt st1.cl;refine get_val (H1.at .clauses rfl id) (by rw[zA,yQ];exact big z.cl) rfl (y:=lo k g (.clause n)) (by rw[zX,List.getElem?_range hnl];rfl) ?_;refine s_clause_of Y (d:=d-1) (zE (nb rfl) (yH hd)) (l:=l) (fun S' F'=>seqOf_loc ((H1.frT F').at (.clause n) (zG (Option.map _) st1.cl) id)) st1.len st1.da fun S2 F2=>?_;have H2:=H1.frT F2;have h2:S2.H (.tmp 3 0)=some (n0,.list (([]:List (Int×Nat)).map prV)):=(F2 (.tmp 3 0) (by decide)).trans h1;have hpl:prs.length<=3:=by
   have :(prs.map (·.1)).length<=(srtA l).length:=by rw[st1.hprs];exact List.length_filter_le _ _
   rw[(srtA_perm l).length_eq,zA]at this;exact zE this st1.len
  refine⟨_,rfl,by rw[zA,(srtA_perm l).length_eq];exact zE st1.len (nb rfl),pairs_loop (S0:=S) z.us (srtA l) [] prs x5 S2 st1.hprs (by rw[List.length_nil,Nat.zero_add];exact hpl) st1.us H2 h2 (F1.fr.trans (F2.up (by decide)).fr) fun x5' S3 H3 h3 F3=>?_⟩;rw[List.nil_append]at h3;refine⟨H3.inst id rfl,?_⟩;refine⟨nb rfl,?_⟩;refine H3.get (a:=.steps) id rfl ?_;refine get_int (H3.at .steps rfl id) (big z.sp) rfl st1.sp ?_;have fin:∀(p1:P)(S4:AS)(s:Int),HasG S4 k g p1 j->p1.us=p.us->p1.rt=p.rt->Fr D0 k 4 S S4->rootP p r lit f prs=((p1.sUs (p.us.set lit.natAbs (some s))).sRt (r+1))->wpTg (Y.E (d-1)) (.sub (.at (.lc 0) .unit_steps) (.abs (.lc 2))) (.int s) [some (lo k g .core),some (.int v),some (.int lit),some (.int n),some (.loc (.tmp 3 0) n0),x5'] S4 fun μ S=>wpSts (Y.E (d-1)) (.cons (.asg (.at (.lc 0) .rooted) (.bin .add (.at (.lc 0) .rooted) (.int 1))) .nil) μ S K:=by
   intro p1 S4 s H4 eu er F4 e;refine H4.get (a:=.unit_steps) id rfl ?_;have hu:=H4.at .usteps rfl id;rw[eu]at hu;refine set_val hu (by rw[zA];exact big z.us) rfl (by rw[zA];exact st1.ul) ?_;have H5:=H4.pUs (p.us.set lit.natAbs (some s));have F5:=F4.put (x:=.usteps) id (g.v .usteps) (.list ((p.us.set lit.natAbs (some s)).map oval));rw[List.map_set]at H5 F5;change HasX _ (S4.put _ _ (.list ((p.us.map oval).set _ (.int s)))) _ _ _ _ at H5;change Fr _ _ _ _ (S4.put _ _ (.list ((p.us.map oval).set _ (.int s))))at F5;generalize S4.put _ _ _=S5 at H5 F5⊢;refine H5.get (a:=.rooted) id rfl ?_;refine set_attr (H5.at .core rfl id) ?_;have H6:=H5.pRt (r+1);have F6:=F5.put (x:=.core) id (g.v .core) (.inst .search (fun b=>if b=At.rooted then some (.int (r+1))else attrs k g (p1.sUs (p.us.set lit.natAbs (some s))) b));rw[<-e]at H6;have er2:(p1.sUs (p.us.set lit.natAbs (some s))).rt=(r:Int):=er.trans st1.rt;rw[er2];exact kn _ _ (ih _ _ _ _ _ _ H6 fun a b c e S' H' F'=>q _ _ _ _ _ H' (F6.trans F'))
  by_cases hp:prs=[]
  .clear st1 ih hpl;subst hp;refine s_log0 Y (d:=d-1) (yH hd) H3 h3 fun S4 H4 F4=>?_;exact fin p S4 f H4 rfl rfl (F3.trans (F4.up (by decide) fun _=>id)) (by unfold rootP;rw[zU rfl])
  .refine s_log1 Y (d:=d-1) (yH hd) H3 (zE z.ps (nb rfl)) st1.ps (st1.stc▸srtA_sa st1.da) (by rw[st1.stc,(srtA_perm l).length_eq];exact st1.len) (fun y hy=>st1.z y ((srtA_perm l).mem_iff.mp (st1.stc▸hy))) (st1.stc▸st1.ok) hp hpl (c:=[lit]) (st1.stc▸st1.fin) (List.cons_ne_nil _ _) h3 fun S4 H4 F4=>?_;exact fin _ S4 p.ps.length H4 rfl rfl (F3.trans (F4.up (by decide) fun _=>id)) (by unfold rootP;rw[zN hp])
theorem s_unit(hd:6<=d)(hr:Rt v p p')(h:HasG S k g p j)(hs:p'.us[v]?=some (some s))(hus:p'.us.length<=900)(q:∀S',HasG S' k g p' j->Fr D0 k 4 S S'->Q (.int s) S'):Y.C d .s_unit [lo k g .core,.int v] S Q:=by
 refine Y.run 4 (zE (nb rfl) hd) (by decide) rfl ?_;obtain⟨n,hn⟩:=unit_loop (k:=k) (g:=g) (j:=j) Y hd hr;refine⟨n,hn _ _ _ _ _ _ h fun _ _ _ _ S' H F=>?_⟩;refine H.get (a:=.unit_steps) id rfl ?_;exact get_val (H.at .usteps rfl id) (by rw[zA];exact zE hus (nb rfl)) rfl (y:=.int s) (by rw[zX,hs];rfl) (q _ H F)
variable{v:CT->Nat}
noncomputable def Gh.bump(g:Gh)(x:CT)(n:Nat):Gh:=⟨fun y=>if y=x then n else g.v y,g.b⟩
theorem s_newlev(hd:1<=d)(h:HasG S k g p j)(h1:p.st.length<=900)(h2:p.tr.length<=900)(q:∀S',HasG S' k g (p.sSt (p.st++[(p.tr.length:Int)])) j->Fr D0 k 0 S S'->Q .none S'):Y.C d .t_newlev [lo k g .core] S Q:=by
 refine Y.run 0 hd (by decide) rfl ?_;refine h.get (a:=.starts) id rfl ⟨⟨_,_,_,rfl,h.at .starts rfl id⟩,?_⟩;refine h.get (a:=.trail) id rfl (len_ints (h.at .trail rfl id) (lw h2 rfl) ?_);refine r_app (h.at .starts rfl id) (ml _ h1) ?_;have H1:=h.pSt (p.st++[(p.tr.length:Int)]);have F1:Fr D0 k 0 S _:=Fr.refl.put (x:=.starts) id (g.v .starts) (.list (iL (p.st++[(p.tr.length:Int)])));rw[iL,zV]at H1 F1;refine H1.get (a:=.hook) id rfl (r_isNot (b:=false) rfl ?_);exact q _ H1 F1
theorem s_cancel0(hd:2<=d)(h:HasX Z S k g p j)(n1:¬Z .core)(n2:¬Z .starts)(hs:p.st=[]){lv:Int}(hlv:0<=lv)(q:Q .none S):Y.C d .t_cancel [lo k g .core,.int lv] S Q:=by
 refine Y.run 4 (yU hd) (by decide) rfl ?_;refine⟨h.inst n1 rfl,s_depth Y (d:=d-1) (yH hd) h n1 n2 (hs▸yA _) ?_⟩;refine⟨nb rfl,?_⟩;exact r_le true (decide_eq_true (hs▸Int.sub_nonpos_of_le hlv)) q
noncomputable def plN(l:Int):Nat:=if l>0 then 2*l.natAbs else 2*l.natAbs+1
theorem plc_eq(l:Int):plc l=(plN l:Int):=by
 unfold plc plN;split<;>simp<;>omega
theorem plN_lt{l:Int}(h:l.natAbs<=N):plN l<2*N+2:=by
 unfold plN;split;.exact Nat.lt_of_le_of_lt (Nat.mul_le_mul_left 2 h) (Nat.lt_add_of_pos_right (by decide))
 .exact Nat.succ_lt_succ (Nat.lt_succ_of_le (Nat.mul_le_mul_left 2 h))
noncomputable def addW(ws:List (List Int))(a n:Int):List (List Int):=ws.set (plN a) (ws.getD (plN a) []++[n])
theorem app_watch{a n:Int}(h:HasX Z S k g p j)(n1:¬Z .core)(n2:¬Z .watches)(n3:¬Z (wt g (plN a)))(ha:plN a<p.ws.length)(hl:p.ws.length<=900)(hw:(p.ws.getD (plN a) []).length<=900){x:X}(he:∀Q:VQ,Q (.int (plc a)) S->wpX E e μ S Q)(hx:∀Q:VQ,Q (.int n) S->wpX E x μ S Q)(h0:μ[0]?=some (some (lo k g .core)))(q:Q .none (S.put (.core k (wt g (plN a))) (g.v (wt g (plN a))) (.list (iL (p.ws.getD (plN a) []++[n]))))):wpX E (.app (.sub (.at (.lc 0) .watches) e) x) μ S Q:=by
 have hg:S.H (.core k (wt g (plN a)))=some (g.v (wt g (plN a)),.list (iL (p.ws.getD (plN a) []))):=h.at _ (obj_wt (getD_some ha)) n3;refine lc_rule (E:=E) (μ:=μ) (i:=0) (S:=S) (Q:=fun v S=>attrGet v .watches S fun o S=>wpX E e μ S fun k S=>itemGet o k S fun o S=>(∃t n xs,o=.loc t n/\S.H t=some (n,.list xs))/\wpX E x μ S fun v S=>appTo o v S Q) h0 (h.get (a:=.watches) n1 rfl (he _ ?_));refine get_val (h.at .watches rfl n2) (by rw[zA,yQ];exact lw hl rfl) (plc_eq a) (y:=lo k g (wt g (plN a))) (by rw[zX,List.getElem?_range ha];rfl) ?_;refine⟨⟨_,_,_,rfl,hg⟩,hx _ ?_⟩;refine r_app hg (ml _ hw) ?_;rw[iL,zV]at q;exact q
theorem HasX.clat(h:HasX Z S k g p j)(n2:¬Z (.clause n))(hc:p.cl[n]?=some l):S.H (.core k (.clause n))=some (g.v (.clause n),.list (iL l)):=h.at (.clause n) (show Option.map _ p.cl[n]?=_ from hc▸rfl) n2
theorem HasX.clget(h:HasX Z S k g p j)(n1:¬Z .clauses)(hc:p.cl[n]?=some l)(hs:p.cl.length<=900)(q:Q (lo k g (.clause n)) S):itemGet (lo k g .clauses) (.int n) S Q:=get_val (h.at .clauses rfl n1) (by rw[zA,yQ];exact lw hs rfl) rfl (by rw[zX,List.getElem?_range (idx_lt hc)];rfl) q
theorem s_watch(hd:2<=d)(h:HasG S k g p j){a:Int}(hc:p.cl[n]?=some l)(hcl:p.cl.length<=900)(ha:l[0]?=some a)(hb:l[1]?=some b)(hll:l.length<=900)(pa:plN a<p.ws.length)(pb:plN b<p.ws.length)(hl:p.ws.length<=900)(hw:∀w∈p.ws,w.length<=800)(q:∀S',HasG S' k g (p.sWs (addW (addW p.ws a n) b n)) j->Fr D0 k 0 S S'->Q .none S'):Y.C d .t_watch [lo k g .core,.int n] S Q:=by
 refine Y.run 1 (yU hd) (by decide) rfl ?_;have hget:∀i,i<p.ws.length->(p.ws.getD i []).length<=800:=fun i hi=>hw _ (by rw[zO,zH hi];exact List.getElem_mem hi);have h9:∀{x:Nat},x<=800->x<=900:=fun h=>zE h (nb rfl);refine h.get (a:=.clauses) id rfl ?_;refine h.clget id hc hcl ?_;refine⟨nb rfl,?_⟩;show wpSts (Y.E (d-1)) (.cons _ _) [some (lo k g .core),some (.int n),some (lo k g (.clause n))] S (retQ Q);refine app_watch (E:=Y.E (d-1)) (μ:=[some (lo k g .core),some (.int n),some (lo k g (.clause n))]) (e:=.call .place_of (.cons (.sub (.lc 2) (.int 0)) .nil)) (x:=.lc 1) (a:=a) (n:=n) h id id id pa hl (h9 (hget _ pa)) (fun Q q=>?_) (fun Q q=>lc_rule rfl q) rfl ?_;.exact get_int (n:=0) (h.clat id hc) (lw hll rfl) rfl ha (s_place_of Y (d:=d-1) (yH hd) q)
 have H1:HasG _ k g (p.sWs (addW p.ws a n)) j:=h.pW pa (p.ws.getD (plN a) []++[(n:Int)]);have F1:Fr D0 k 0 S _:=Fr.refl.put (x:=wt g (plN a)) id (g.v (wt g (plN a))) (.list (iL (p.ws.getD (plN a) []++[(n:Int)])));generalize S.put _ _ _=S1 at H1 F1⊢;show wpSts (Y.E (d-1)) (.cons _ _) [some (lo k g .core),some (.int n),some (lo k g (.clause n))] S1 (retQ Q);have hwl:(addW p.ws a n).length=p.ws.length:=yD ..;have hb2:((addW p.ws a n).getD (plN b) []).length<=900:=by
  unfold addW;rw[zO,List.getElem?_set];split;.have :=hget _ pa;show(p.ws.getD (plN a) []++[(n:Int)]).length<=900;rw[zJ];exact zE (Nat.add_le_add_right this 1) (nb rfl)
  .have :=hget _ pb;rw[zO]at this;exact h9 this
 refine app_watch (E:=Y.E (d-1)) (μ:=[some (lo k g .core),some (.int n),some (lo k g (.clause n))]) (e:=.call .place_of (.cons (.sub (.lc 2) (.int 1)) .nil)) (x:=.lc 1) (a:=b) (n:=n) H1 id id id (hwl▸pb) (hwl▸hl) hb2 (fun Q q=>?_) (fun Q q=>lc_rule rfl q) rfl ?_;.exact get_int (n:=1) (H1.clat id hc) (lw hll rfl) rfl hb (s_place_of Y (d:=d-1) (yH hd) q)
 have H2:HasG _ k g (p.sWs (addW (addW p.ws a n) b n)) j:=H1.pW (i:=plN b) (hwl▸pb) ((addW p.ws a n).getD (plN b) []++[(n:Int)]);have F2:=F1.put (x:=wt g (plN b)) id (g.v (wt g (plN b))) (.list (iL ((addW p.ws a n).getD (plN b) []++[(n:Int)])));exact q _ H2 F2
variable{b:Nat}
theorem clauses_grow(g:Gh)(k m n:Nat):(List.range (m+1)).map (fun i=>lo k (g.bump (.clause m) n) (.clause i))=(List.range m).map (fun i=>lo k g (.clause i))++[.loc (.core k (.clause m)) n]:=by
 rw[List.range_succ,zV];exact congr (zG _ (List.map_congr_left fun i hi=>zG (Val.loc _) (zN fun e=>Nat.ne_of_lt (List.mem_range.mp hi) (CT.clause.inj e)))) (zG (fun n=>[Val.loc (.core k (.clause m)) n]) (zU rfl))
def HasR(S:AS)(k:Nat)(v:CT->Nat)(os:Nat->List (Option HObj)):Prop:=∀x o,nt none (os x.arg) x.ctorIdx=some o->S.H (.core k x)=some (v x,o)
theorem HasR.put(h:HasR S k v os)(x:CT)(o:HObj)(hx:∀a,mkCT x.ctorIdx a=x)(hn:∀a,Nat.blt x.ctorIdx (os a).length=true):HasR (S.put (.core k x) (v x) o) k v fun a=>(os a).set x.ctorIdx (some o):=fun y o' e=>by
 by_cases q:y=x
 .clear hx;subst q;exact put_eq.trans (zG (fun o=>some (v y,o)) (zS (((nt_set _ 0 _).2 (hn _)).symm.trans e)))
 .exact(put_ne q).trans (h y o' (((nt_set _ _ _).1 fun e=>q (y.mk_eq.symm.trans ((zG (mkCT . y.arg) e).trans (hx _)))).symm.trans e))
theorem HasR.al(h:HasR S k g.v os)(x:CT)(hn:∀a,Nat.blt x.ctorIdx (os a).length=true)(h1:f x.arg=some o)(h2:∀y,y≠x->y.ctorIdx=x.ctorIdx->f y.arg=nt none (os y.arg) x.ctorIdx):HasR (S.alloc (.core k x) o) k (g.bump x S.n).v fun a=>(os a).set x.ctorIdx (f a):=fun y o' e=>by
  by_cases q:y=x
  .clear h2;subst q;have e:=h1.symm.trans (((nt_set _ 0 _).2 (hn _)).symm.trans e);cases e;exact alloc_eq.trans (zG (fun n=>some (n,o)) (zU rfl).symm)
  . refine(alloc_ne q).trans ((h y o' (Eq.trans ?_ e)).trans (zG (fun n=>some (n,o')) (zN q).symm));by_cases c:y.ctorIdx=x.ctorIdx
    .show _=nt none ((os y.arg).set x.ctorIdx (f y.arg)) y.ctorIdx;rw[c,(nt_set _ 0 _).2 (hn _)];exact(h2 y q c).symm
    .exact((nt_set _ _ _).1 c).symm
theorem HasR.alC(h:HasR S k g.v os)(m:Nat)(hn:∀a,Nat.blt 15 (os a).length=true)(h1:f m=some o)(h2:∀a,a≠m->f a=nt none (os a) 15):HasR (S.alloc (.core k (.clause m)) o) k (g.bump (.clause m) S.n).v fun a=>(os a).set 15 (f a):=h.al (.clause m) hn h1 fun y q c=>h2 _ fun e=>q ((CT.of_idx c).trans (zG CT.clause e))
variable{f:Fn}
theorem HasR.alP(h:HasR S k g.v os)(x:CT)(o:HObj)(hx:∀a,mkCT x.ctorIdx a=x)(hn:∀a,Nat.blt x.ctorIdx (os a).length=true):HasR (S.alloc (.core k x) o) k (g.bump x S.n).v fun a=>(os a).set x.ctorIdx (some o):=h.al x hn rfl fun y q c=>absurd (y.mk_eq.symm.trans ((zG (mkCT . y.arg) c).trans (hx _))) q
theorem HasR.get(h:HasR S k v os)(hv:v .core=g.v .core)(hc:nt none (os 0) 0=some (.inst .search (attrs k g p))){x:Val}(e:attrs k g p a=some x)(q:Q x S):attrGet (lo k g .core) a S Q:=.mk rfl (hv▸h .core _ hc) (okAt_ne fun c=>by subst c;cases e) e q
theorem s_store(hd:1<=d)(h:HasG S k g p j)(h1:p.cl.length<=900)(h2:p.sp.length<=900)(hc:c.length<=900)(q:∀S' g',g'.v .core=g.v .core->HasG S' k g' ((p.sCl (p.cl++[c])).sSp (p.sp++[s])) j->Fr D0 k 0 S S'->Q (.int p.cl.length) S'):Y.C d .t_store [lo k g .core,.tup (iL c),.int s,.bool false] S Q:=by
 refine Y.run 1 hd (by decide) rfl ?_;have hl:((List.range p.cl.length).map fun i=>lo k g (.clause i)).length<=900:=by rw[zA,yQ];exact h1
 have H:HasR S k g.v (objs k g p j):=fun x o e=>h x o id e;refine h.get (a:=.clauses) id rfl ?_;refine len_list (h.at .clauses rfl id) (lw hl rfl) ?_;rw[zA,yQ];refine⟨nb rfl,?_⟩;refine h.get (a:=.clauses) id rfl ⟨⟨_,_,_,rfl,h.at .clauses rfl id⟩,?_⟩;refine r_newL (.core k (.clause p.cl.length)) (by rw[zA];exact lw hc rfl) ?_;have F:=(Fr.refl (D:=D0) (k:=k) (l:=0) (S:=S)).alloc (x:=.clause p.cl.length) id (.list (iL c));have H:=H.alC p.cl.length (o:=.list (iL c)) (f:=fun a=>((p.cl++[c])[a]?).map fun l=>.list (iL l)) (fun _=>rfl) (by rw[List.getElem?_concat_length];rfl) fun a ha=>by
  show Option.map _ _=Option.map _ _;by_cases c:a<p.cl.length;.rw[zZ c]
  .rw[yJ (Nat.le_of_not_lt c),yJ (by rw[zJ];exact Nat.succ_le_of_lt (Nat.lt_of_le_of_ne (Nat.le_of_not_lt c) (Ne.symm ha)))]
 generalize S.n=n0 at H⊢;generalize S.alloc _ _=S1 at F H⊢;refine r_app (H .clauses _ rfl) hl ?_;have F:=F.put (x:=.clauses) id (g.v .clauses) (.list ((List.range p.cl.length).map (fun i=>lo k g (.clause i))++[.loc (.core k (.clause p.cl.length)) n0]));have H:HasR (AS.put _ (.core k .clauses) (g.v .clauses) _) k _ _:=H.put .clauses (.list ((List.range p.cl.length).map (fun i=>lo k g (.clause i))++[.loc (.core k (.clause p.cl.length)) n0])) (fun _=>rfl) fun _=>rfl;generalize S1.put _ _ _=S2 at F H⊢;show wpSts (Y.E (d-1)) (.cons _ _) [some (lo k g .core),some (.tup (iL c)),some (.int s),some (.bool false),some (.int p.cl.length)] S2 (retQ Q);refine H.get (p:=p) (g:=g) (a:=.steps) rfl rfl rfl ⟨⟨_,_,_,rfl,H .steps _ rfl⟩,?_⟩;refine r_app (H .steps _ rfl) (ml _ h2) ?_;have F:=F.put (x:=.steps) id (g.v .steps) (.list (iL p.sp++[.int s]));have H:HasR (AS.put _ (.core k .steps) (g.v .steps) _) k _ _:=H.put .steps (.list (iL p.sp++[.int s])) (fun _=>rfl) fun _=>rfl;generalize S2.put _ _ _=S3 at F H⊢;refine H.get (p:=p) (g:=g) (a:=.droppable) rfl rfl rfl ⟨⟨_,_,_,rfl,H .drop _ rfl⟩,?_⟩;refine r_app (H .drop _ rfl) (by rw[yZ];exact h1) ?_;have F:=F.put (x:=.drop) id (g.v .drop) (.list (List.replicate p.cl.length (.bool false)++[.bool false]));have H:HasR (AS.put _ (.core k .drop) (g.v .drop) _) k _ _:=H.put .drop (.list (List.replicate p.cl.length (.bool false)++[.bool false])) (fun _=>rfl) fun _=>rfl;generalize S3.put _ _ _=S4 at F H⊢;refine H.get (p:=p) (g:=g) (a:=.activities) rfl rfl rfl ⟨⟨_,_,_,rfl,H .acts _ rfl⟩,?_⟩;refine r_app (H .acts _ rfl) (by rw[yZ];exact h1) ?_;have F:=F.put (x:=.acts) id (g.v .acts) (.list (List.replicate p.cl.length (.int 0)++[.int 0]));have H:HasR (AS.put _ (.core k .acts) (g.v .acts) _) k _ _:=H.put .acts (.list (List.replicate p.cl.length (.int 0)++[.int 0])) (fun _=>rfl) fun _=>rfl;refine q _ (g.bump (.clause p.cl.length) n0) rfl (fun x o _ e=>H x o (Eq.trans (zG (nt none . _) ?_) e)) F;have L:(p.cl++[c]).length=p.cl.length+1:=zJ;have M:∀{o14 o14' o16 o16' o17 o17' o18 o18':List Val},o14=o14'->o16=o16'->o17=o17'->o18=o18'->∀o15:Option HObj,(((((objs k g p j x.arg).set 15 o15).set 14 (some (.list o14))).set 16 (some (.list o16))).set 17 (some (.list o17))).set 18 (some (.list o18))=(((((objs k g p j x.arg).set 15 o15).set 14 (some (.list o14'))).set 16 (some (.list o16'))).set 17 (some (.list o17'))).set 18 (some (.list o18')):=fun a b c d o=>by rw[a,b,c,d]
 exact M (o14':=(List.range (p.cl++[c]).length).map fun i=>lo k (g.bump (.clause p.cl.length) n0) (.clause i)) (o16':=iL (p.sp++[s])) (o17':=List.replicate (p.cl++[c]).length (.bool false)) (o18':=List.replicate (p.cl++[c]).length (.int 0)) (by rw[L,clauses_grow]) (by rw[iL,iL,zV];rfl) (by rw[L,List.replicate_succ']) (by rw[L,List.replicate_succ']) _
theorem insK_front:∀{l:List Int},(∀y∈l,key (.int x)<=key (.int y))->insK key (.int x) (iL l)=iL (x::l):=by
 intro v;induction v with
 |nil=>
  intro _;exact rfl|cons y r ih=>
  intro h;show(if key (.int x)<=key (.int y)then _ else _)=_;rw[zU (h y (zF ..))];rfl
theorem insK_mid{B:List Int}(hB:∀y∈B,key (.int x)<=key (.int y)):∀{A:List Int},(∀y∈A,¬key (.int x)<=key (.int y))->insK key (.int x) (iL (A++B))=iL (A++x::B):=by
 intro v;induction v with
 |nil=>
  intro _;exact insK_front hB|cons y r ih=>
  intro h;show(if key (.int x)<=key (.int y)then _ else _)=_;rw[zN (h y (zF ..))];show Val.int y::insK key (.int x) (iL (r++B))=_;rw[ih fun z hz=>h z (zI _ hz)];rfl
theorem sortK_two(c:Int->Bool):∀{l:List Int},(∀x∈l,key (.int x)=if c x then-1 else 0)->sortK key (iL l)=iL (l.filter c++l.filter fun x=>!c x):=by
 intro v;induction v with
 |nil=>
  intro _;exact rfl|cons x r ih=>
  intro h;show insK key (.int x) (sortK key (iL r))=_;have hr:∀y∈r,key (.int y)=if c y then-1 else 0:=fun y hy=>h y (zI _ hy);have hx:=h x (zF ..);rw[ih hr,List.filter_cons,List.filter_cons];cases hc:c x with
  |true=>
   simp only[Bool.not_true,if_true,Bool.false_eq_true,if_false];refine insK_front fun y hy=>?_;rw[hx,hc,hr y (by rcases yV.mp hy with h|h<;>exact(yM.mp h).1)];simp only[if_true];split<;>omega|false=>
      simp only[Bool.not_false,if_true,Bool.false_eq_true,if_false];refine insK_mid (fun y hy=>?_) fun y hy=>?_
      . have :=yM.mp hy;rw[hx,hc,hr y this.1];have h2:c y=false:=by simpa using this.2
        simp[h2]
      .have :=yM.mp hy;rw[hx,hc,hr y this.1,this.2];simp
noncomputable def byH(a:List Int)(l:List Int):List Int:=l.filter (fun x=>decide (pv a x≠-1))++l.filter (fun x=>!decide (pv a x≠-1))
theorem byH_perm(a l:List Int):(byH a l).Perm l:=List.filter_append_perm _ l
theorem put_alloc{o':HObj}:((S.alloc t o).put t S.n o')=S.alloc t o':=by
 unfold AS.put AS.alloc;simp only[AS.mk.injEq,and_true];funext u;split<;>rfl
theorem s_byh(hd:3<=d)(h:HasG S k g p j)(z:Sz N p j)(hc:p.cl[n]?=some l)(sa:SA l)(hl:l.length<=3)(hb:∀x∈l,x.natAbs<=N)(hst:p.st=[])(hlev:∀x∈l,pv p.asg x=-1->j.lev.getD x.natAbs 0=0)(q:Q (.loc (.core k (.clause n)) S.n) (S.alloc (.core k (.clause n)) (.list (iL (byH p.asg l))))):Y.C d .t_byh [lo k g .core,lo k g (.clause n)] S Q:=by
  refine Y.run 1 (zE (by decide) hd) (by decide) rfl ?_;have hd':2<=d-1:=Nat.sub_le_sub_right hd 1;refine sorted_rule (e:=.lc 1) (μ:=[some (lo k g .core),some (lo k g (.clause n)),none]) (l:=l) (fun Q q=>q) (seqOf_loc (h.clat id hc)) hl sa.da (fun x hx=>s_order_key Y (d:=d-1) (yU hd') ⟨⟨_,rfl⟩,rfl⟩) (.core k (.clause n)) ?_;rw[srtA_id sa];have H1:HasX (fun x=>x=.clause n) (S.alloc (.core k (.clause n)) (.list (iL l))) k g p j:=fun x o nX e=>by
    rw[alloc_H,zN (by simpa using nX)];exact h x o id e
  have h1:(S.alloc (.core k (.clause n)) (.list (iL l))).H (.core k (.clause n))=some (S.n,.list (iL l)):=by rw[alloc_H,zU rfl]
  have e1:∀o,(S.alloc (.core k (.clause n)) (.list (iL l))).put (.core k (.clause n)) S.n o=S.alloc (.core k (.clause n)) o:=fun o=>put_alloc;generalize hn0:S.n=n0 at h1 e1 q⊢;generalize S.alloc _ (.list (iL l))=S1 at H1 h1 e1⊢;refine⟨nb rfl,?_⟩;refine⟨⟨_,_,_,rfl,h1⟩,.core k (.clause n),n0,iL l,(fun v=>match v with|.int i=>pht p j i|_=>0),rfl,h1,ml l hl,H1.inst (by simp) rfl,fun x hx=>?_,?_⟩
  . refine xea (yE.mp hx) fun i hi e_2=>?_;clear hx;subst e_2;have hi':=hb i hi;have H2:HasX (fun x=>x=.clause n) (S1.del (.core k (.clause n))) k g p j:=fun x o nX e=>by
      show(if(Tag.core k x)=.core k (.clause n)then none else S1.H (.core k x))=_;rw[zN (by simpa using nX)];exact H1 x o nX e
    have h20:N+1<=999:=zE (Nat.succ_le_succ z.n) (nb rfl);have hi2:i.natAbs<N+1:=Nat.lt_succ_of_le hi';exact s_height Y (d:=d-1) hd' H2 (by simp) (by simp) (by simp) (by simp) (z.asg▸hi2) (z.asg▸h20) (lw z.st rfl) (z.lev▸hi2) (z.lev▸h20) ⟨rfl,rfl⟩
  . have e2:sortK (fun v=>-(match v with|.int i=>pht p j i|_=>0)) (iL l)=iL (byH p.asg l):=by
      refine sortK_two (fun x=>decide (pv p.asg x≠-1)) fun x hx=>?_;show-(pht p j x)=_;unfold pht;by_cases c:pv p.asg x=-1;.rw[zN (by simpa using c),zN (by simpa using c),hlev x hx c];rfl
      .rw[zU c,zU (by simpa using c),hst];rfl
    rw[e2,e1];exact q
noncomputable def placeP(p:P)(n:Nat)(l:List Int):P:=let l':=byH p.asg l;let a:=l'.getD 0 0;let b:=l'.getD 1 0;let p1:P:=((p.sCl (p.cl.set n l')).sWs (if l.length>1 then addW (addW p.ws a n) b n else p.ws));if pv p.asg a=0/\(l.length=1\/pv p.asg b=-1)then enqP p1 a n else p1
theorem HasX.newCl(h:HasG S k g p j)(hn:n<p.cl.length)(l':List Int):HasG ((S.alloc (.core k (.clause n)) (.list (iL l'))).put (.core k .clauses) (g.v .clauses) (.list (((List.range p.cl.length).map fun i=>lo k g (.clause i)).set n (.loc (.core k (.clause n)) S.n)))) k (g.bump (.clause n) S.n) (p.sCl (p.cl.set n l')) j:=by
 have H:HasR S k g.v (objs k g p j):=fun x o e=>h x o id e;have H:=H.alC n (o:=.list (iL l')) (f:=fun a=>((p.cl.set n l')[a]?).map fun l=>.list (iL l)) (fun _=>rfl) (by rw[zP hn];rfl) fun a ha=>by rw[zK ha.symm];rfl
 have H:HasR (AS.put _ (.core k .clauses) (g.v .clauses) _) k _ _:=H.put .clauses (.list (((List.range p.cl.length).map fun i=>lo k g (.clause i)).set n (.loc (.core k (.clause n)) S.n))) (fun _=>rfl) fun _=>rfl;refine fun x o _ e=>H x o (Eq.trans (zG (nt none . _) ?_) e);rw[range_set (f':=fun i=>lo k (g.bump (.clause n) S.n) (.clause i)) (zG (Val.loc _) (zU rfl)) fun a c=>zG (Val.loc _) (zN fun e=>c (CT.clause.inj e))];exact(objs_cl k (g.bump (.clause n) S.n) p j yD x.arg).symm
theorem int_lt_dec{a:Nat}(h:a<b):decide ((a:Int)<(b:Int))=true:=by simp;exact h
theorem s_place(hd:5<=d)(h:HasG S k g p j)(z:Sz N p j)(hc:p.cl[n]?=some l)(sa:SA l)(hl:l.length<=3)(hl2:1<=l.length)(hcl:p.cl.length<=900)(hws:p.ws.length=2*N+2)(hwl:∀w∈p.ws,w.length<=800)(hb:∀x∈l,x.natAbs<=N)(hst:p.st=[])(hlev:∀x∈l,pv p.asg x=-1->j.lev.getD x.natAbs 0=0)(hv:pv p.asg ((byH p.asg l).getD 0 0)≠-1)(q:∀S' g' j',g'.v .core=g.v .core->(j'=j\/∃p1 a,p1.st=[]/\a∈l/\j'=enqJ p1 j a)->HasG S' k g' (placeP p n l) j'->Fr D0 k 0 S S'->Q (.int (-1)) S'):Y.C d .t_place [lo k g .core,.int n] S Q:=by
  refine Y.run 1 (by exact lA 0x7060052060012 tT hd) (by decide) rfl ?_;have hn:=idx_lt hc;have hN:=z.n;have start:wpSts (Y.E (d-1)) (.cons (.asg (.nm 2) (.meth (.lc 0) .t_byh (.cons (.sub (.at (.lc 0) .clauses) (.lc 1)) .nil))) (match body_t_place with|.cons _ (.cons _ r)=>r|r=>r)) [some (lo k g .core),some (.int n),none] S (retQ Q):=by
    refine⟨h.inst id rfl,?_⟩;refine h.get (a:=.clauses) id rfl ?_;refine h.clget id hc (by exact lA 0x706438332000643833200 tT hcl) ?_;refine s_byh Y (d:=d-1) (by exact lB 0x70604120010061052060032 tT hd (le_sub_ad _ _)) h z hc sa hl hb hst hlev ?_;have H1:HasX (fun x=>x=.clause n) (S.alloc (.core k (.clause n)) (.list (iL (byH p.asg l)))) k g p j:=fun x o nX e=>by
      rw[alloc_H,zN (by intro q;injection q with _ q;exact nX q)];exact h x o id e
    refine⟨nb rfl,?_⟩;refine H1.get (a:=.clauses) (by simp) rfl ?_;refine set_val (H1.at .clauses rfl (by simp)) (by rw[zA,yQ];exact lA 0x706438332000673e33200 tT hcl) rfl (by rw[zA,yQ];exact lB 0x7161000161000 tT hn) ?_;refine xea3 (⟨_,h.newCl hn (byH p.asg l),zU rfl,rfl,rfl⟩:∃g',HasG ((S.alloc (.core k (.clause n)) (.list (iL (byH p.asg l)))).put (.core k .clauses) (g.v .clauses) (.list (((List.range p.cl.length).map fun i=>lo k g (.clause i)).set n (.loc (.core k (.clause n)) S.n)))) k g' (p.sCl (p.cl.set n (byH p.asg l))) j/\g'.v (.clause n)=S.n/\lo k g .core=lo k g' .core/\g'.v .core=g.v .core) fun g' H2 hv' hv0 hcv=>?_;have F2:Fr D0 k 0 S _:=(Fr.refl.alloc (x:=.clause n) id (.list (iL (byH p.asg l)))).put (x:=.clauses) id (g.v .clauses) (.list (((List.range p.cl.length).map fun i=>lo k g (.clause i)).set n (.loc (.core k (.clause n)) S.n)));generalize S.n=n0 at H2 F2 hv'⊢;generalize AS.put _ _ _ _=S2 at H2 F2⊢;have hll:(byH p.asg l).length=l.length:=(byH_perm _ _).length_eq;have hmem:∀i,i<l.length->(byH p.asg l).getD i 0∈l:=fun i hi=>(byH_perm p.asg l).mem_iff.mp (by
   rw[zO,zH (by exact lC 0x71620007f7f252010161000 tT hll hi)];exact List.getElem_mem _);generalize hl':byH p.asg l=l' at H2 F2 hv hll hmem;have hc2:((p.sCl (p.cl.set n l')):P).cl[n]?=some l':=zP hn;have hL:S2.H (.core k (.clause n))=some (n0,.list (iL l')):=hv'▸H2.clat id hc2;have hg0:l'[0]?=some (l'.getD 0 0):=getD_some (by exact lB 0x77f7f251000061012160002 tT hl2 hll);have ha:(l'.getD 0 0)∈l:=hmem 0 (by exact lA 0x7060012160002 tT hl2);rw[hv0];have rest:∀(S3:AS)(p1:P),HasG S3 k g' p1 j->p1.asg=p.asg->p1.st=p.st->p1.tr=p.tr->p1.rea=p.rea->p1.cl[n]?=some l'->Fr D0 k 0 S S3->placeP p n l=(if pv p.asg (l'.getD 0 0)=0/\(l.length=1\/pv p.asg (l'.getD 1 0)=-1)then enqP p1 (l'.getD 0 0) n else p1)->wpSts (Y.E (d-1)) (match body_t_place with|.cons _ (.cons _ (.cons _ (.cons _ r)))=>r|r=>r) [some (lo k g' .core),some (.int n),some (.loc (.core k (.clause n)) n0)] S3 (retQ Q):=by
      intro S3 p1 H3 ea es et er ec F3 ep;have hL3:S3.H (.core k (.clause n))=some (n0,.list (iL l')):=hv'▸H3.clat id ec;have val:∀{i:Nat}{Q:VQ}(hi:i<l.length),Q (.int (pv p.asg (l'.getD i 0))) S3->Y.C (d-1) .t_value [lo k g' .core,.int (l'.getD i 0)] S3 Q:=fun{i Q}hi q=>s_value Y (by exact lB 0x70604120010061052060012 tT hd (le_sub_ad _ _)) H3 id id (by rw[ea,z.asg];have :=hb _ (hmem i hi);exact lB 0x70610001604121000 tT this) (by rw[ea,z.asg];exact lA 0x7064312000673e332041200 tT hN) (by rw[ea];exact q);refine len_ints hL3 (by exact lB 0x72610000632100673e33200 tT hl hll) ?_;refine r_eq false (zQ.mpr (by exact fun e=>lB 0x756025402107f7f2500100600128080650202 tT hl2 hll e)) ?_;refine⟨H3.inst id rfl,?_⟩;refine get_int hL3 (by exact lB 0x72610000632100673e33200 tT hl hll) (n:=0) rfl hg0 ?_;refine val (by exact lA 0x7060012160002 tT hl2) ?_;refine r_gl glb3 ?_;refine r_eq false (zQ.mpr hv) ?_;have last:∀S4 g4 j4,g4.v .core=g.v .core->(j4=j\/∃p1 a,p1.st=[]/\a∈l/\j4=enqJ p1 j a)->HasG S4 k g4 (placeP p n l) j4->Fr D0 k 0 S S4->wpSts (Y.E (d-1)) (.cons (.ret (.gl "NO_CLAUSE")) .nil) [some (lo k g' .core),some (.int n),some (.loc (.core k (.clause n)) n0)] S4 (retQ Q):=fun S4 g4 j4 hg hj H4 F4=>by
        exact r_gl glb4 (q S4 g4 j4 hg hj H4 F4)
      refine⟨H3.inst id rfl,?_⟩;refine get_int hL3 (by exact lB 0x72610000632100673e33200 tT hl hll) (n:=0) rfl hg0 ?_;refine val (by exact lA 0x7060012160002 tT hl2) ?_;refine r_gl glb1 ?_;have z3:Sz N p1 j:=⟨z.n,by rw[ea];exact z.asg,by rw[er];exact z.rea,z.lev,z.spo,by rw[et];exact z.tr,by rw[es];exact z.st⟩;by_cases c0:pv p.asg (l'.getD 0 0)=0
      . refine r_eq true (yG.mpr c0) ?_;refine len_ints hL3 (by exact lB 0x72610000632100673e33200 tT hl hll) ?_;by_cases c1:l.length=1
        .refine r_eq true (yG.mpr (by exact lB 0x78180251210817f25100080810510125612540200 tT hl2 hll c1)) ?_;refine⟨H3.inst id rfl,?_⟩;refine get_int hL3 (by exact lB 0x72612102610000673e33200 tT hll c1) (n:=0) rfl hg0 ?_;refine s_enq Y (d:=d-1) (by exact lB 0x70604120010061052060022 tT hd (le_sub_ad _ _)) H3 z3 (hb _ ha) fun S4 H4 F4=>?_;rw[zU ⟨c0,.inl c1⟩]at ep;exact last S4 g' _ hcv (.inr ⟨p1,_,es.trans hst,ha,rfl⟩) (ep▸H4) (F3.trans (F4.up (yO _) fun _ z=>z.elim))
        . refine r_eq false (zQ.mpr (by exact fun e=>(Nat.lt_or_gt_of_ne c1).elim (fun a=>lA 0x71612000600128080650202 tT hl2 a) fun a=>lB 0x716101256125402007f7f2510008080650202 tT hll e a)) ?_;have hb0:(l'.getD 1 0)∈l:=hmem 1 (by exact(Nat.lt_or_gt_of_ne c1).elim (fun a=>lA 0x71612000600128080150012 tT hl2 a) fun a=>lA 0x7160012160012 tT a);have hg1:l'[1]?=some (l'.getD 1 0):=getD_some (by exact(Nat.lt_or_gt_of_ne c1).elim (fun a=>lB 0x71612100610128080150012 tT hl2 a) fun a=>lB 0x71610127f7f251000160012 tT hll a);refine⟨H3.inst id rfl,?_⟩;refine get_int hL3 (by exact lB 0x72610000632100673e33200 tT hl hll) (n:=1) rfl hg1 ?_;refine val (by exact(Nat.lt_or_gt_of_ne c1).elim (fun a=>lA 0x71612000600128080150012 tT hl2 a) fun a=>lA 0x7160012160012 tT a) ?_;refine r_gl glb3 ?_;by_cases c2:pv p.asg (l'.getD 1 0)=-1;.refine r_eq true (yG.mpr c2) ?_;refine⟨H3.inst id rfl,?_⟩;refine H3.get (a:=.levels) id rfl ?_;refine get_int hL3 (by exact lB 0x72610000632100673e33200 tT hl hll) (n:=1) rfl hg1 ?_;refine get_int (H3.at .levels rfl id) (by rw[z.lev];exact lA 0x7064312000673e332041200 tT hN) rfl (y:=0) (by rw[getD_some (d:=0) (by rw[z.lev];have :=hb _ hb0;exact lB 0x70610001604121000 tT this),hlev _ hb0 c2]) ?_;refine s_cancel0 Y (d:=d-1) (by exact lB 0x70604120010061052060022 tT hd (le_sub_ad _ _)) H3 id id (es.trans hst) (by decide) ?_;refine⟨H3.inst id rfl,?_⟩;refine get_int hL3 (by exact lB 0x72610000632100673e33200 tT hl hll) (n:=0) rfl hg0 ?_;refine s_enq Y (d:=d-1) (by exact lB 0x70604120010061052060022 tT hd (le_sub_ad _ _)) H3 z3 (hb _ ha) fun S4 H4 F4=>?_;rw[zU ⟨c0,.inr c2⟩]at ep;exact last S4 g' _ hcv (.inr ⟨p1,_,es.trans hst,ha,rfl⟩) (ep▸H4) (F3.trans (F4.up (yO _) fun _ z=>z.elim))
          .refine r_eq false (zQ.mpr c2) ?_;rw[zN (fun z=>z.2.elim c1 c2)]at ep;exact last S3 g' _ hcv (.inl rfl) (ep▸H3) F3
      .refine r_eq false (zQ.mpr c0) ?_;rw[zN (fun z=>c0 z.1)]at ep;exact last S3 g' _ hcv (.inl rfl) (ep▸H3) F3
    refine len_ints hL (by exact lB 0x72610000632100673e33200 tT hl hll) ?_;by_cases c1:l.length>1
    .refine r_gt true (by simp;exact lB 0x71610127f7f2510004654020012 tT hll c1) ?_;refine⟨H2.inst id rfl,?_⟩;have hg1:l'[1]?=some (l'.getD 1 0):=getD_some (by exact lB 0x71610127f7f251000160012 tT hll c1);refine s_watch Y (d:=d-1) (by exact lB 0x70604120010061052060022 tT hd (le_sub_ad _ _)) H2 hc2 (by show(p.cl.set n l').length<=_;rw[yD];exact lA 0x706438332000643833200 tT hcl) hg0 hg1 (by exact lB 0x72610000632100643833200 tT hl hll) (by show _<p.ws.length;rw[hws];exact plN_lt (hb _ ha)) (by show _<p.ws.length;rw[hws];exact plN_lt (hb _ (hmem 1 (by exact lA 0x7160012160012 tT c1)))) (by show p.ws.length<=_;exact lB 0x7828205431210260422142210000643833200 tT hws hN) hwl fun S3 H3 F3=>?_;exact rest S3 _ H3 rfl rfl rfl rfl hc2 (F2.trans F3) (by unfold placeP;simp only[hl',zU c1];rfl)
    .refine r_gt false (by simp;exact lB 0x70612102610003612540200 tT hll (Nat.le_of_not_lt c1)) ?_;exact rest S2 _ H2 rfl rfl rfl rfl hc2 F2 (by unfold placeP;simp only[hl',zN c1];rfl)
  refine h.get (a:=.clauses) id rfl ?_;refine h.clget id hc (by exact lA 0x706438332000643833200 tT hcl) ?_;refine len_ints (h.clat id hc) (by exact lA 0x70632000673e33200 tT hl) ?_;by_cases h1:l.length=1
  .refine r_lt true (by rw[h1];rfl) ?_;refine⟨h.inst id rfl,?_⟩;refine s_cancel0 Y (d:=d-1) (by exact lB 0x70604120010061052060022 tT hd (le_sub_ad _ _)) h id id hst (by decide) ?_;exact start
  .refine r_lt false (by simp;exact(Nat.lt_or_gt_of_ne h1).elim (fun a=>lA 0x716120006001280803554020022 tT hl2 a) fun a=>lA 0x71600123654020022 tT a) ?_;exact start
theorem HasX.getH(h:HasX Z S k g p j)(n:¬Z .heapO){x:Val}(e:hattrs k g a=some x)(q:Q x S):attrGet (lo k g .heapO) a S Q:=by
 exact .mk rfl (h.at .heapO rfl n) rfl e q
theorem s_held(hd:1<=d)(h:HasG S k g p j){v:Nat}(hv:p.hP[v]?=some x)(hx:0<=x)(hl:p.hP.length<=900)(q:Q (.bool true) S):Y.C d .h_held [lo k g .heapO,.int v] S Q:=by
 refine Y.run 0 hd (by decide) rfl ?_;refine h.getH (a:=.place) id rfl ?_;refine get_int (h.at .hPlace rfl id) (lw hl rfl) rfl hv ?_;exact r_ge true (decide_eq_true hx) q
theorem s_push0(hd:2<=d)(h:HasG S k g p j){v:Nat}(hv:p.hP[v]?=some x)(hx:0<=x)(hl:p.hP.length<=900)(q:Q .none S):Y.C d .h_push [lo k g .heapO,.int v] S Q:=by
 refine Y.run 0 (yU hd) (by decide) rfl ?_;refine⟨h.instH id rfl,?_⟩;exact s_held Y (d:=d-1) (dd hd rfl) h hv hx hl q
theorem HasX.newTr(h:HasG S k g p j)(l:List Int):HasG ((S.alloc (.core k .trail) (.list (iL l))).put (.core k .core) (g.v .core) (.inst .search (fun b=>if b=At.trail then some (.loc (.core k .trail) S.n)else attrs k g p b))) k (g.bump .trail S.n) (p.sTr (l)) j:=by
 have H:HasR S k g.v (objs k g p j):=fun x o e=>h x o id e;have H:=H.alP .trail (.list (iL l)) (fun _=>rfl) fun _=>rfl;have H:HasR (AS.put _ (.core k .core) (g.v .core) _) k _ _:=H.put .core (.inst .search fun b=>if b=At.trail then some (.loc (.core k .trail) S.n)else attrs k g p b) (fun _=>rfl) fun _=>rfl;rw[show(fun b=>if b=At.trail then some (.loc (.core k .trail) S.n)else attrs k g p b)=attrs k (g.bump .trail S.n) (p.sTr l)from funext fun b=>by cases b<;>rfl]at H⊢;exact fun x o _ e=>H x o e
theorem HasX.newSt(h:HasG S k g p j)(l:List Int):HasG ((S.alloc (.core k .starts) (.list (iL l))).put (.core k .core) (g.v .core) (.inst .search (fun b=>if b=At.starts then some (.loc (.core k .starts) S.n)else attrs k g p b))) k (g.bump .starts S.n) (p.sSt (l)) j:=by
 have H:HasR S k g.v (objs k g p j):=fun x o e=>h x o id e;have H:=H.alP .starts (.list (iL l)) (fun _=>rfl) fun _=>rfl;have H:HasR (AS.put _ (.core k .core) (g.v .core) _) k _ _:=H.put .core (.inst .search fun b=>if b=At.starts then some (.loc (.core k .starts) S.n)else attrs k g p b) (fun _=>rfl) fun _=>rfl;rw[show(fun b=>if b=At.starts then some (.loc (.core k .starts) S.n)else attrs k g p b)=attrs k (g.bump .starts S.n) (p.sSt l)from funext fun b=>by cases b<;>rfl]at H⊢;exact fun x o _ e=>H x o e
theorem rng_one{a:Nat}:rngVals (a:Int) ((a:Int)-1) (-1)=[.int (a:Int)]:=by
 unfold rngVals Builtin.Range.rangeSize;rw[zN (by decide),zU (by exact lA 0x7465402003412540200 tT)];have :((a:Int)-((a:Int)-1)-1)/(- -1)+1=1:=by
  rw[show(a:Int)-((a:Int)-1)-1=0 by exact lA 0x756023412343412540200540200 tT];rfl
 rw[this];rfl
noncomputable def cancelP(p:P)(b:List Int)(m:Nat):P:=(((((p.sAsg (p.asg.set m 0)).sRea (p.rea.set m (-1))).sTr (b)).sSt ([])).sHd (Min.min p.hd b.length))
theorem s_cancel1(hd:4<=d)(h:HasG S k g p j){b:List Int}(htr:p.tr=b++[(m:Int)])(hst:p.st=[(b.length:Int)])(hb:b.length<=100)(ha:m<p.asg.length)(ha2:p.asg.length<=900)(hr:m<p.rea.length)(hr2:p.rea.length<=900)(hj:m<j.pha.length)(hj2:j.pha.length<=900)(hv:p.hP[m]?=some x)(hx:0<=x)(hl:p.hP.length<=900)(q:∀S' g' y,g'.v .core=g.v .core->HasG S' k g' (cancelP p b m) (j.sPha (j.pha.set m y))->Fr D0 k 0 S S'->Q .none S'):Y.C d .t_cancel [lo k g .core,.int 0] S Q:=by
 refine Y.run 4 (zE (nb rfl) hd) (by decide) rfl ?_;have htl:p.tr.length=b.length+1:=by rw[htr];simp
 have hb9:p.tr.length<=900:=by exact lB 0x72604121000064362100643833200 tT hb htl
 have hgm:p.tr[b.length]?=some (m:Int):=by rw[htr];simp
 refine⟨h.inst id rfl,?_⟩;refine s_depth Y (d:=d-1) (dd hd rfl) h id id (by rw[hst];exact nb rfl) ?_;refine⟨nb rfl,?_⟩;refine r_le false (by rw[hst];rfl) ?_;refine h.get (a:=.starts) id rfl ?_;refine get_int (h.at .starts rfl id) (by rw[hst];exact nb rfl) (n:=0) rfl (by rw[hst];rfl) ?_;refine⟨nb rfl,?_⟩;refine h.get (a:=.trail) id rfl ?_;refine len_ints (h.at .trail rfl id) (lw hb9 rfl) ?_;refine⟨by rw[htl];exact lB 0x75634125402041210540200064362101683e33200 tT hb (zY (lA 0x7363412540204120002 tT)),by lia,.inr rfl,?_⟩;rw[htl,show((b.length+1:Nat):Int)-1=(b.length:Int)by exact lA 0x75654020034125402041200 tT,rng_one];refine forO_cons trivial fun K kn _ _ _=>?_;refine⟨nb rfl,?_⟩;refine h.get (a:=.trail) id rfl ?_;refine get_int (h.at .trail rfl id) (lw hb9 rfl) rfl hgm ?_;refine⟨nb rfl,?_⟩;refine h.get (a:=.assigns) id rfl ?_;refine get_int (n:=m) (h.at .assigns rfl id) (lw ha2 rfl) rfl (getD_some (d:=0) ha) ?_;refine h.get (a:=.phases) id rfl ?_;refine set_int (l:=j.pha) (n:=m) (h.at .phases rfl id) (lw hj2 rfl) rfl hj ?_;have H1:=h.pPha (j.pha.set m (p.asg.getD m 0));have F1:Fr D0 k 0 S _:=Fr.refl.put (x:=.phases) id (g.v .phases) (.list (iL (j.pha.set m (p.asg.getD m 0))));generalize S.put _ _ _=S1 at H1 F1⊢;refine r_gl glb1 ?_;refine H1.get (a:=.assigns) id rfl ?_;refine set_int (l:=p.asg) (n:=m) (H1.at .assigns rfl id) (lw ha2 rfl) rfl ha ?_;have H2:=H1.pAsg (p.asg.set m 0);have F2:=F1.put (x:=.assigns) id (g.v .assigns) (.list (iL (p.asg.set m 0)));generalize S1.put _ _ _=S2 at H2 F2⊢;refine r_gl glb4 ?_;refine H2.get (a:=.reasons) id rfl ?_;refine set_int (l:=p.rea) (n:=m) (H2.at .reasons rfl id) (lw hr2 rfl) rfl hr ?_;have H3:=H2.pRea (p.rea.set m (-1));have F3:=F2.put (x:=.reasons) id (g.v .reasons) (.list (iL (p.rea.set m (-1))));generalize S2.put _ _ _=S3 at H3 F3⊢;refine H3.get (a:=.heap) id rfl ?_;refine⟨H3.instH id rfl,?_⟩;refine s_push0 Y (d:=d-1) (dd hd rfl) H3 hv hx hl ?_;refine kn _ _ (forO_nil trivial ?_);have et:(iL p.tr).take (Int.toNat (b.length:Int))=iL b:=by rw[yY,htr];simp
 have key2:∀(S5:AS)(g5:Gh),g5.v .core=g.v .core->HasG S5 k g5 ((((p.sAsg (p.asg.set m 0)).sRea (p.rea.set m (-1))).sTr b).sSt []) (j.sPha (j.pha.set m (p.asg.getD m 0)))->Fr D0 k 0 S S5->wpSts (Y.E (d-1)) (.cons (.asg (.at (.lc 0) .head) (.min (.at (.lc 0) .head) (.lc 3))) (.cons (.asg (.at (.lc 0) .told) (.min (.at (.lc 0) .told) (.lc 3))) (.cons (.ifs (.cmp .isNot (.at (.lc 0) .hook) .none) (.cons .boom .nil) .nil) .nil))) [some (lo k g5 .core),some (.int 0),some (.int (p.st.length-0)),some (.int b.length),some (.int b.length),some (.int (m:Int).natAbs)] S5 (retQ Q):=fun S5 g5 hg5 H5 F5=>by
  refine H5.get (a:=.head) id rfl ?_;refine set_attr (H5.at .core rfl id) ?_;have H6:=H5.pHd (Min.min p.hd b.length);have F6:=F5.put (x:=.core) id (g5.v .core) (.inst .search (fun c=>if c=At.head then some (.int (Min.min p.hd b.length))else attrs k g5 ((((p.sAsg (p.asg.set m 0)).sRea (p.rea.set m (-1))).sTr b).sSt []) c));have key3:∀S6,HasG S6 k g5 (cancelP p b m) (j.sPha (j.pha.set m (p.asg.getD m 0)))->Fr D0 k 0 S S6->wpSts (Y.E (d-1)) (.cons (.asg (.at (.lc 0) .told) (.min (.at (.lc 0) .told) (.lc 3))) (.cons (.ifs (.cmp .isNot (.at (.lc 0) .hook) .none) (.cons .boom .nil) .nil) .nil)) [some (lo k g5 .core),some (.int 0),some (.int (p.st.length-0)),some (.int b.length),some (.int b.length),some (.int (m:Int).natAbs)] S6 (retQ Q):=fun S6 H6 F6=>by
   refine H6.get (a:=.told) id rfl ?_;refine set_attr (H6.at .core rfl id) ?_;have H7:=H6.pTold;have F7:=F6.put (x:=.core) id (g5.v .core) (.inst .search (fun c=>if c=At.told then some (.int 0)else attrs k g5 (cancelP p b m) c));have e0:Min.min (0:Int) (b.length:Int)=0:=Int.min_eq_left (Int.natCast_nonneg _);rw[e0];refine H7.get (a:=.hook) id rfl ?_;exact r_isNot (b:=false) rfl (q _ _ _ hg5 H7 F7)
  exact key3 _ H6 F6
 have key1:∀(S4:AS)(g4:Gh),g4.v .core=g.v .core->HasG S4 k g4 (((p.sAsg (p.asg.set m 0)).sRea (p.rea.set m (-1))).sTr b) (j.sPha (j.pha.set m (p.asg.getD m 0)))->Fr D0 k 0 S S4->wpSts (Y.E (d-1)) (.cons (.asg (.at (.lc 0) .starts) (.sliceTo (.at (.lc 0) .starts) (.lc 1))) (.cons (.asg (.at (.lc 0) .head) (.min (.at (.lc 0) .head) (.lc 3))) (.cons (.asg (.at (.lc 0) .told) (.min (.at (.lc 0) .told) (.lc 3))) (.cons (.ifs (.cmp .isNot (.at (.lc 0) .hook) .none) (.cons .boom .nil) .nil) .nil)))) [some (lo k g4 .core),some (.int 0),some (.int (p.st.length-0)),some (.int b.length),some (.int b.length),some (.int (m:Int).natAbs)] S4 (retQ Q):=fun S4 g4 hg4 H4 F4=>by
  refine H4.get (a:=.starts) id rfl ?_;refine⟨by decide,by decide,.inr ⟨_,listAt_loc (H4.at .starts rfl id),by show(iL p.st).length<=_;rw[hst];exact nb rfl,r_newL (.core k .starts) (yA _) ?_⟩⟩;refine set_attr ((alloc_ne (x:=.starts) (y:=.core) (nD rfl)).trans (H4.at .core rfl id)) ?_;have H5:=H4.newSt [];have F5:=(F4.alloc (x:=.starts) id (.list (iL []))).put (x:=.core) id (g4.v .core) (.inst .search (fun c=>if c=At.starts then some (.loc (.core k .starts) S4.n)else attrs k g4 (((p.sAsg (p.asg.set m 0)).sRea (p.rea.set m (-1))).sTr b) c));exact key2 _ (g4.bump .starts S4.n) hg4 H5 F5
 refine H3.get (a:=.trail) id rfl ?_;refine⟨by exact lA 0x73654020002 tT,by exact lA 0x7064362004683e332540200 tT hb,.inr ⟨_,listAt_loc (H3.at .trail rfl id),ml _ (lw hb9 rfl),r_newL (.core k .trail) (zE (List.length_take_le _ _) (by rw[yY];exact lA 0x7064362000683e33200 tT hb)) ?_⟩⟩;refine set_attr ((alloc_ne (x:=.trail) (y:=.core) (nD rfl)).trans (H3.at .core rfl id)) ?_;have H4:=H3.newTr b;have F4:=(F3.alloc (x:=.trail) id (.list (iL b))).put (x:=.core) id (g.v .core) (.inst .search (fun c=>if c=At.trail then some (.loc (.core k .trail) S3.n)else attrs k g ((p.sAsg (p.asg.set m 0)).sRea (p.rea.set m (-1))) c));show wpSts _ _ _ ((S3.alloc (.core k .trail) (.list ((iL p.tr).take (Int.toNat (b.length:Int))))).put _ _ _) _;rw[et];exact key1 _ (g.bump .trail S3.n) rfl H4 F4
variable{m:CT->Option HObj}
structure JOk(N:Nat)(j:J):Prop where
 lev:j.lev.length=N+1
 spo:j.spo.length=N+1
 pha:j.pha.length=N+1
 z:∀v,v≠N->j.lev.getD v 0=0
theorem JOk.enq(h:JOk N j)(hs:p1.st=[])(a:Int):JOk N (enqJ p1 j a):=by
 refine⟨(yD ..).trans h.lev,(yD ..).trans h.spo,h.pha,fun v hv=>?_⟩;show(j.lev.set a.natAbs (p1.st.length:Int)).getD v 0=0;rw[hs,zO,List.getElem?_set];split;.split<;>rfl
 .rw[<-zO];exact h.z v hv
theorem JOk.enqN(h:JOk N j){a:Int}(ha:a.natAbs=N):JOk N (enqJ p1 j a):=by
 refine⟨(yD ..).trans h.lev,(yD ..).trans h.spo,h.pha,fun v hv=>?_⟩;show(j.lev.set a.natAbs (p1.st.length:Int)).getD v 0=0;rw[ha,zO,zK (Ne.symm hv),<-zO];exact h.z v hv
theorem JOk.sPha(h:JOk N j)(m:Nat)(y:Int):JOk N (j.sPha (j.pha.set m y)):=⟨h.lev,h.spo,(yD ..).trans h.pha,h.z⟩
structure PSz(N:Nat)(p:P):Prop where
 n:N<=20
 asg:p.asg.length=N+1
 rea:p.rea.length=N+1
 tr:p.tr.length<=800
 st:p.st.length<=800
theorem PSz.sz(h:PSz N p)(hj:JOk N j):Sz N p j:=⟨h.n,h.asg,h.rea,hj.lev,hj.spo,lw h.tr rfl,lw h.st rfl⟩
theorem PSz.len(h:PSz N p):p.asg.length<=999:=h.asg▸zE (Nat.succ_le_succ h.n) (nb rfl)
theorem PSz.lt(h:PSz N p){l:Int}(hl:l.natAbs<=N):l.natAbs<p.asg.length:=h.asg▸Nat.lt_succ_of_le hl
theorem PSz.val(z:PSz N p)(hd:1<=d)(h:HasG S k g p j){l:Int}(hl:l.natAbs<=N)(q:Q (.int (pv p.asg l)) S):Y.C d .t_value [lo k g .core,.int l] S Q:=s_value Y hd h id id (z.lt hl) z.len q
theorem s_moved0(hd:2<=d)(h:HasG S k g p j)(z:PSz N p)(hc:p.cl[n]?=some l)(hl:l.length<=3)(h2:2<=l.length)(hb:∀x∈l,x.natAbs<=N)(hf:∀x,l[2]?=some x->pv p.asg x=-1)(q:Q (.bool false) S):Y.C d .t_moved [lo k g .core,.int n,lo k g (.clause n)] S Q:=by
 refine Y.run 1 (yU hd) (by decide) rfl ?_;refine len_ints (h.clat id hc) (lw hl rfl) ?_;refine⟨by decide,by exact lB 0x7565402105402000632101683e33200 tT hl (zY (lA 0x73654020002 tT)),.inl rfl,?_⟩;rw[rng_up (a:=2) (m:=2) rfl rfl];obtain⟨a,b,r,el⟩:=two h2;subst el;cases r with|nil=>exact forO_nil trivial q|cons x r=>
  obtain rfl:r=[]:=List.length_eq_zero_iff.mp (Nat.le_zero.mp (Nat.le_of_add_le_add_right (b:=3) hl));refine forO_cons trivial fun K kn _ _ _=>?_;refine⟨nb rfl,?_⟩;refine⟨h.inst id rfl,?_⟩;refine get_int (h.clat id hc) (nb rfl) (n:=2) rfl rfl ?_;refine z.val Y (d:=d-1) (yH hd) h (hb x (by simp)) ?_;refine r_gl glb3 ?_;refine r_ne false (by rw[hf x rfl];rfl) ?_;exact kn _ _ (forO_nil trivial q)
theorem s_moved1(hd:2<=d)(h:HasG S k g p j)(z:PSz N p){a b:Int}(hc:p.cl[n]?=some [a,b,x])(hx:x.natAbs<=N)(hf:pv p.asg x≠-1)(hws:p.ws.length=2*N+2)(hw:∀w∈p.ws,w.length<=800)(q:∀S',HasG S' k g ((p.sCl (p.cl.set n [a,x,b])).sWs (addW p.ws x n)) j->Fr (Dead g) k 0 S S'->Q (.bool true) S'):Y.C d .t_moved [lo k g .core,.int n,lo k g (.clause n)] S Q:=by
 refine Y.run 1 (yU hd) (by decide) rfl ?_;refine len_ints (h.clat id hc) (nb rfl) ?_;refine⟨nb rfl,nb rfl,.inl rfl,?_⟩;rw[rng_up (a:=2) (m:=2) rfl rfl];refine forO_cons trivial fun K _ _ _ kr=>?_;refine⟨nb rfl,?_⟩;refine⟨h.inst id rfl,?_⟩;refine get_int (h.clat id hc) (nb rfl) (n:=2) rfl rfl ?_;refine z.val Y (d:=d-1) (yH hd) h hx ?_;refine r_gl glb3 ?_;refine r_ne true (zQ.mpr hf) ?_;refine get_int (h.clat id hc) (nb rfl) (n:=2) rfl rfl ?_;refine get_int (h.clat id hc) (nb rfl) (n:=1) rfl rfl ?_;refine⟨nb rfl,_,_,rfl,?_⟩;refine set_int (l:=[a,b,x]) (n:=1) (h.clat id hc) (nb rfl) rfl (nb rfl) ?_;have hn:=idx_lt hc;have hN:=z.n;have key:∀S2,HasG S2 k g (p.sCl (p.cl.set n [a,x,b])) j->Fr (Dead g) k 0 S S2->wpSts (Y.E (d-1)) (.cons (.ex (.app (.sub (.at (.lc 0) .watches) (.call .place_of (.cons (.sub (.lc 2) (.int 1)) .nil))) (.lc 1))) (.cons (.ret .tru) .nil)) [some (lo k g .core),some (.int n),some (lo k g (.clause n)),some (.int 2)] S2 K:=fun S2 H2 F2=>by
  have hc2:(p.sCl (p.cl.set n [a,x,b])).cl[n]?=some [a,x,b]:=zP hn;have pa:plN x<p.ws.length:=hws▸plN_lt hx;have hg:(p.ws.getD (plN x) []).length<=800:=hw _ (by rw[zO,zH pa];exact List.getElem_mem pa);refine s_ex (app_watch (a:=x) (n:=n) H2 id id id pa (by show p.ws.length<=_;rw[hws];exact lA 0x7828205431200064383320422142200 tT hN) (lw hg rfl) (fun Q q=>?_) (fun Q q=>lc_rule rfl q) rfl ?_);.exact get_int (n:=1) (H2.clat id hc2) (nb rfl) rfl rfl (s_place_of Y (d:=d-1) (yH hd) q)
  have H3:HasG _ k g ((p.sCl (p.cl.set n [a,x,b])).sWs (addW p.ws x n)) j:=H2.pW pa (p.ws.getD (plN x) []++[(n:Int)]);have F3:=F2.put (x:=wt g (plN x)) (not_dead_wt g _) (g.v (wt g (plN x))) (.list (iL (p.ws.getD (plN x) []++[(n:Int)])));exact kr _ _ _ (q _ H3 F3)
 have H1:=h.pCl hn [a,x,x];have F1:Fr (Dead g) k 0 S _:=Fr.refl.put (x:=.clause n) (by rintro⟨_,e,-⟩;cases e) (g.v (.clause n)) (.list (iL [a,x,x]));have hc1:(p.sCl (p.cl.set n [a,x,x])).cl[n]?=some [a,x,x]:=zP hn;refine set_int (l:=[a,x,x]) (n:=2) (H1.clat id hc1) (nb rfl) rfl (nb rfl) ?_;have H2:=H1.pCl (i:=n) (by show n<(p.cl.set n [a,x,x]).length;rw[yD];exact hn) [a,x,b];have F2:=F1.put (x:=.clause n) (by rintro⟨_,e,-⟩;cases e) (g.v (.clause n)) (.list (iL [a,x,b]));have e:(p.sCl (p.cl.set n [a,x,x])).sCl ((p.sCl (p.cl.set n [a,x,x])).cl.set n [a,x,b])=p.sCl (p.cl.set n [a,x,b]):=by
  show p.sCl ((p.cl.set n [a,x,x]).set n [a,x,b])=_;rw[List.set_set]
 rw[e]at H2;exact key _ H2 F2
variable{x:Nat}
structure VSz(N:Nat)(p:P):Prop extends PSz N p where
 st0:p.st=[]
 ws:p.ws.length=2*N+2
 wl:∀w∈p.ws,w.length<=800
 cl:p.cl.length<=800
noncomputable def norm(gone:Int):List Int->List Int|a::b::r=>if a=gone then b::gone::r else a::b::r|l=>l
inductive Turn(N:Nat)(gone:Int)(n:Nat)(p:P)(kept:List Int):P->List Int->Prop|tru{l r:List Int}{a:Int}:p.cl[n]?=some l->l.length<=3->(∀x∈l,x.natAbs<=N)->norm gone l=a::gone::r->pv p.asg a=1->Turn N gone n p kept (p.sCl (p.cl.set n (a::gone::r))) (kept++[(n:Int)])|mov{l:List Int}{a x:Int}:p.cl[n]?=some l->l.length<=3->(∀x∈l,x.natAbs<=N)->norm gone l=[a,gone,x]->pv p.asg a≠1->pv p.asg x≠-1->Turn N gone n p kept ((p.sCl (p.cl.set n [a,x,gone])).sWs (addW p.ws x n)) kept|unit{l r:List Int}{a:Int}:p.cl[n]?=some l->l.length<=3->(∀x∈l,x.natAbs<=N)->norm gone l=a::gone::r->pv p.asg a=0->(∀x∈r,pv p.asg x=-1)->Turn N gone n p kept (enqP (p.sCl (p.cl.set n (a::gone::r))) a n) (kept++[(n:Int)])
theorem Turn.cl0(t:Turn N gone n p kept p1 kept1):∃l a r,p.cl[n]?=some l/\l.length<=3/\(∀x∈l,x.natAbs<=N)/\norm gone l=a::gone::r:=by
 cases t with|tru a b c e _=>exact⟨_,_,_,a,b,c,e⟩|mov a b c e _ _=>exact⟨_,_,_,a,b,c,e⟩|unit a b c e _ _=>exact⟨_,_,_,a,b,c,e⟩
noncomputable def visBody:Sts:=match body_t_visit with|.cons _ (.cons (.for_ _ _ b) _)=>b|_=>.nil
set_option maxHeartbeats 1000000 in theorem vis_turn(hd:5<=d)(z:VSz N p)(t:Turn N gone n p kept p1 kept1)(h:HasG S k g p j)(hj:JOk N j){q0:Nat}(hw:p.ws[q0]?=some W0)(hW:W0.length<=800)(hi:W0[i]?=some (n:Int))(hk:S.H (.core k (other g q0))=some (nk,.list (iL kept)))(hkl:kept.length<=800){x6 x7:Option Val}(q:∀S' j' x6 x7 fl,(fl=.next\/fl=.cont)->HasG S' k g p1 j'->JOk N j'->S'.H (.core k (other g q0))=some (nk,.list (iL kept1))->Fr D0 k 0 S S'->K fl [some (lo k g .core),some (.int gone),some (lo k g (wt g q0)),some (.loc (.core k (other g q0)) nk),some (.int (-1)),some (.int i),x6,x7] S'):wpSts (Y.E (d-1)) visBody [some (lo k g .core),some (.int gone),some (lo k g (wt g q0)),some (.loc (.core k (other g q0)) nk),some (.int (-1)),some (.int i),x6,x7] S K:=by
  refine xe3a3 t.cl0 fun l a r hc hl hb hnl=>?_;have hn:=idx_lt hc;refine get_int (h.at (wt g q0) (obj_wt hw) id) (lw hW rfl) rfl hi ?_;refine⟨nb rfl,?_⟩;refine h.get (a:=.clauses) id rfl ?_;refine h.clget id hc (lw z.cl rfl) ?_;refine⟨nb rfl,?_⟩;refine r_is (b:=false) rfl ?_;have hlen2:(a::gone::r).length=l.length:=by
    rw[<-hnl];unfold norm;split;.split<;>rfl
    .rfl
  have hb2:∀x∈(a::gone::r),x.natAbs<=N:=by
    rw[<-hnl];unfold norm;split
    . split;.intro x hx;rename_i e;clear t q hnl hlen2;subst e;exact hb x (by simp at hx⊢;rcases hx with h|h|h<;>simp[h])
      .exact hb
    .exact hb
  have key:∀(S1:AS),HasG S1 k g (p.sCl (p.cl.set n (a::gone::r))) j->Fr (Dead g) k 0 S S1->wpSts (Y.E (d-1)) (match visBody with|.cons _ (.cons _ (.cons _ (.cons _ r)))=>r|r=>r) [some (lo k g .core),some (.int gone),some (lo k g (wt g q0)),some (.loc (.core k (other g q0)) nk),some (.int (-1)),some (.int i),some (.int n),some (lo k g (.clause n))] S1 K:=by
    intro S1 H1 F1;have hc1:(p.sCl (p.cl.set n (a::gone::r))).cl[n]?=some (a::gone::r):=zP hn;have z1:PSz N (p.sCl (p.cl.set n (a::gone::r))):=⟨z.n,z.asg,z.rea,z.tr,z.st⟩;have hk1:S1.H (.core k (other g q0))=some (nk,.list (iL kept)):=(F1 (.core k (other g q0)) (.inr (dead_other g q0))).trans hk;have hL:=H1.clat id hc1;have hlen:(a::gone::r).length<=999:=lw (hlen2▸hl) rfl;have hba:a.natAbs<=N:=hb2 a (by simp);refine⟨H1.inst id rfl,?_⟩;refine get_int hL hlen (n:=0) rfl rfl ?_;refine z1.val Y (d:=d-1) (dd hd rfl) H1 hba ?_;refine r_gl glb2 ?_;have kpart:∀(b0:Int),pv p.asg a=b0->b0≠-1->(b0=0->p1=enqP (p.sCl (p.cl.set n (a::gone::r))) a n)->(b0≠0->p1=p.sCl (p.cl.set n (a::gone::r)))->kept1=kept++[(n:Int)]->wpSts (Y.E (d-1)) (match visBody with|.cons _ (.cons _ (.cons _ (.cons _ (.cons _ r))))=>r|r=>r) [some (lo k g .core),some (.int gone),some (lo k g (wt g q0)),some (.loc (.core k (other g q0)) nk),some (.int (-1)),some (.int i),some (.int n),some (lo k g (.clause n))] S1 K:=by
      intro b0 hb0 hm1 e0 e1 ek;refine⟨⟨_,_,_,rfl,hk1⟩,?_⟩;refine r_app hk1 (by rw[zA];exact lw hkl rfl) ?_;have H2:HasG (S1.put (.core k (other g q0)) nk (.list (iL kept++[.int n]))) k g (p.sCl (p.cl.set n (a::gone::r))) j:=H1.dead (dead_none (dead_other g q0)) fun y hy=>put_ne hy;have F2:Fr D0 k 0 S (S1.put (.core k (other g q0)) nk (.list (iL kept++[.int n]))):=(F1.up (yO _) fun _ z=>z.elim).put id _ _;have hk2:(S1.put (.core k (other g q0)) nk (.list (iL kept++[.int n]))).H (.core k (other g q0))=some (nk,.list (iL kept1)):=by rw[put_eq,ek,iL,iL,zV];rfl
      generalize S1.put _ _ _=S2 at H2 F2 hk2⊢;have hL:=H2.clat id hc1;refine⟨H2.inst id rfl,?_⟩;refine get_int hL hlen (n:=0) rfl rfl ?_;refine z1.val Y (d:=d-1) (dd hd rfl) H2 hba ?_;refine r_gl glb3 ?_;refine r_eq false (zQ.mpr (fun h=>hm1 (hb0.symm.trans h))) ?_;refine⟨H2.inst id rfl,?_⟩;refine get_int hL hlen (n:=0) rfl rfl ?_;refine z1.val Y (d:=d-1) (dd hd rfl) H2 hba ?_;refine r_gl glb1 ?_;by_cases c:b0=0
      .refine r_eq true (yG.mpr (hb0.trans c)) ?_;refine⟨H2.inst id rfl,?_⟩;refine get_int hL hlen (n:=0) rfl rfl ?_;refine s_enq Y (d:=d-1) (dd hd rfl) H2 (z1.sz hj) hba fun S3 H3 F3=>?_;refine q S3 _ _ _ _ (.inl rfl) (e0 c▸H3) (hj.enq z.st0 a) ((F3 (.core k (other g q0)) (.inr (dead_other g q0))).trans hk2) (F2.trans (F3.up (yO _) fun _ z=>z.elim))
      .refine r_eq false (zQ.mpr (fun h=>c (hb0.symm.trans h))) ?_;exact q S2 _ _ _ _ (.inl rfl) (e1 c▸H2) hj hk2 F2
    clear hL hlen;cases t with|@tru l' r' a' hc' _ _ hnl' hv=>
   clear a_1 a_2 q;obtain rfl:l=l':=zS (hc.symm.trans hc');rw[hnl]at hnl';simp only[List.cons.injEq,true_and]at hnl';obtain⟨rfl,rfl⟩:=hnl';refine r_ne false (by show(pv p.asg a==1)=_;rw[hv];rfl) ?_;exact kpart 1 hv (by decide) (fun h=>absurd h (by decide)) (fun _=>rfl) rfl|@mov l' a' x hc' _ _ hnl' hv hx=>
      clear hlen2 a_1 a_2 kpart;obtain rfl:l=l':=zS (hc.symm.trans hc');rw[hnl]at hnl';simp only[List.cons.injEq,true_and]at hnl';obtain⟨rfl,rfl⟩:=hnl';refine r_ne true (zQ.mpr hv) ?_;refine⟨H1.inst id rfl,?_⟩;refine s_moved1 Y (d:=d-1) (dd hd rfl) H1 z1 hc1 (hb2 x (by simp)) hx z.ws z.wl fun S2 H2 F2=>?_;have e:((p.sCl (p.cl.set n [a,gone,x])).sCl ((p.sCl (p.cl.set n [a,gone,x])).cl.set n [a,x,gone])).sWs (addW (p.sCl (p.cl.set n [a,gone,x])).ws x n)=(p.sCl (p.cl.set n [a,x,gone])).sWs (addW p.ws x n):=by
        show(p.sCl ((p.cl.set n [a,gone,x]).set n [a,x,gone])).sWs (addW p.ws x n)=_;rw[List.set_set]
      rw[e]at H2;exact q S2 _ _ _ _ (.inr rfl) H2 hj ((F2 (.core k (other g q0)) (.inr (dead_other g q0))).trans hk1) ((F1.trans F2).up (yO _) fun _ z=>z.elim)|@unit l' r' a' hc' _ _ hnl' hv hr=>
      clear a_1 a_2 q;obtain rfl:l=l':=zS (hc.symm.trans hc');rw[hnl]at hnl';simp only[List.cons.injEq,true_and]at hnl';obtain⟨rfl,rfl⟩:=hnl';refine r_ne true (by show(pv p.asg a==1)=_;rw[hv];rfl) ?_;refine⟨H1.inst id rfl,?_⟩;refine s_moved0 Y (d:=d-1) (dd hd rfl) H1 z1 hc1 (hlen2▸hl) (by simp) hb2 (fun x hx=>?_) ?_;.cases r with|nil=>cases hx|cons y r=>cases hx;exact hr _ (zF ..)
      .exact kpart 0 hv (by decide) (fun _=>rfl) (fun h=>absurd rfl h) rfl
  refine xe3 (two (zE (Nat.le_add_left 2 r.length) (Nat.le_of_eq hlen2))) fun u w r' ec=>?_;replace hc:p.cl[n]?=some (u::w::r'):=ec▸hc;replace hl:(u::w::r').length<=3:=ec▸hl;replace hnl:norm gone (u::w::r')=_:=ec▸hnl;clear ec hb hlen2;refine get_int (h.clat id hc) (lw hl rfl) (n:=0) rfl rfl ?_;change(if u=gone then w::gone::r' else u::w::r')=_ at hnl;by_cases e:u=gone
  . rw[zU e]at hnl;simp only[List.cons.injEq,true_and]at hnl;clear hb2;obtain⟨rfl,rfl⟩:=hnl;refine r_eq true (yG.mpr e) ?_;refine get_int (h.clat id hc) (lw hl rfl) (n:=1) rfl rfl ?_;refine⟨nb rfl,_,_,rfl,?_⟩;refine set_int (l:=u::w::r') (n:=0) (h.clat id hc) (lw hl rfl) rfl (Nat.succ_pos _) ?_;have H1:=h.pCl hn (w::w::r');have F1:Fr (Dead g) k 0 S _:=Fr.refl.put (x:=.clause n) (by rintro⟨_,e,-⟩;cases e) (g.v (.clause n)) (.list (iL (w::w::r')));have hc1:(p.sCl (p.cl.set n (w::w::r'))).cl[n]?=some (w::w::r'):=zP hn;refine set_int (l:=w::w::r') (n:=1) (H1.clat id hc1) (lw hl rfl) rfl (Nat.succ_lt_succ (Nat.succ_pos _)) ?_;have H2:=H1.pCl (i:=n) (by show n<(p.cl.set n (w::w::r')).length;rw[yD];exact hn) (w::gone::r');have F2:=F1.put (x:=.clause n) (by rintro⟨_,e,-⟩;cases e) (g.v (.clause n)) (.list (iL (w::gone::r')));have e:(p.sCl (p.cl.set n (w::w::r'))).sCl ((p.sCl (p.cl.set n (w::w::r'))).cl.set n (w::gone::r'))=p.sCl (p.cl.set n (w::gone::r')):=by
      show p.sCl ((p.cl.set n (w::w::r')).set n (w::gone::r'))=_;rw[List.set_set]
    rw[e]at H2;exact key _ H2 F2
  . rw[zN e]at hnl;simp only[List.cons.injEq]at hnl;refine xa2 hnl fun e_0 e_1 e_2=>?_;subst e_0;subst e_1;subst e_2;refine r_eq false (zQ.mpr e) ?_;have e2:p.sCl (p.cl.set n (u::w::r'))=p:=by
      have :p.cl.set n (u::w::r')=p.cl:=by
        obtain⟨h1,h2⟩:=zM.mp hc;rw[<-h2,List.set_getElem_self]
      rw[this];rfl
    exact key S (by rw[e2];exact h) Fr.refl
inductive Vis(N:Nat)(gone:Int)(W0:List Int):List Nat->P->List Int->P->List Int->Prop|nil{p:P}{kept:List Int}:VSz N p->p.ws[plN gone]?=some W0->Vis N gone W0 [] p kept p kept|cons{n:Nat}{rest:List Nat}{p p1 p2:P}{kept kept1 kept2:List Int}:VSz N p->p.ws[plN gone]?=some W0->kept.length<=800->Turn N gone n p kept p1 kept1->Vis N gone W0 rest p1 kept1 p2 kept2->Vis N gone W0 (n::rest) p kept p2 kept2
theorem Vis.fin{rest:List Nat}{p2:P}(h:Vis N gone W0 rest p kept p2 kept2):VSz N p2/\p2.ws[plN gone]?=some W0:=by
 induction h with|nil a b=>exact⟨a,b⟩|cons _ _ _ _ _ ih=>exact ih
theorem Vis.start{rest:List Nat}{p2:P}(h:Vis N gone W0 rest p kept p2 kept2):VSz N p/\p.ws[plN gone]?=some W0:=by
 cases h with|nil a b=>exact⟨a,b⟩|cons a b _ _ _=>exact⟨a,b⟩
theorem vis_loop(hd:5<=d)(hW:W0.length<=800){Q:SQ}{rest:List Nat}(hv:Vis N gone W0 rest p kept p' kept'):∀(i:Nat)(S:AS)(j:J)(x5 x6 x7:Option Val),(∀m n:Nat,rest[m]?=some n->W0[i+m]?=some (n:Int))->HasG S k g p j->JOk N j->S.H (.core k (other g (plN gone)))=some (nk,.list (iL kept))->Fr D0 k 0 S0 S->(∀S' j' x5 x6 x7,HasG S' k g p' j'->JOk N j'->S'.H (.core k (other g (plN gone)))=some (nk,.list (iL kept'))->Fr D0 k 0 S0 S'->Q .next [some (lo k g .core),some (.int gone),some (lo k g (wt g (plN gone))),some (.loc (.core k (other g (plN gone))) nk),some (.int (-1)),x5,x6,x7] S')->forO (fun x μ S K=>bindNames [5] x μ fun μ=>wpSts (Y.E (d-1)) visBody μ S K) (fun _=>True) ((List.range' i rest.length).map fun i:Nat=>.int (i:Int)) [some (lo k g .core),some (.int gone),some (lo k g (wt g (plN gone))),some (.loc (.core k (other g (plN gone))) nk),some (.int (-1)),x5,x6,x7] S Q:=by
 induction hv with|nil a b=>
  intro i S j x5 x6 x7 hr h hj hk F q;exact forO_nil trivial (q _ _ _ _ _ h hj hk F)|@cons n rest p p1 p2 kept kept1 kept2 z hw hkl t hv ih=>
  intro i S j x5 x6 x7 hr h hj hk F q;rw[List.length_cons,List.range'_succ,List.map_cons];refine forO_cons trivial fun K kn kc _ _=>?_;refine⟨nb rfl,?_⟩;refine vis_turn Y hd z t h hj hw hW (hr 0 n rfl) hk hkl fun S' j' x6 x7 fl hfl h' hj' hk' F'=>?_;have go:=ih (i+1) S' j' (some (.int i)) x6 x7 (fun m n' hm=>by rw[show i+1+m=i+(m+1)by exact lB 0x72604041210000410041200 tT];exact hr (m+1) n' hm) h' hj' hk' (F.trans F') q;rcases hfl with rfl|rfl;.exact kn _ _ go
  .exact kc _ _ go
theorem s_visit(hd:6<=d){rest:List Nat}(hv:Vis N gone (rest.map fun n:Nat=>(n:Int)) rest p [] p' kept')(h:HasG S k g p j)(hj:JOk N j)(q:∀S' g' j',g'.v .core=g.v .core->HasG S' k g' (p'.sWs (p'.ws.set (plN gone) kept')) j'->JOk N j'->Fr D0 k 0 S S'->Q (.int (-1)) S'):Y.C d .t_visit [lo k g .core,.int gone] S Q:=by
 refine Y.run 6 (zE (nb rfl) hd) (by decide) rfl ?_;obtain⟨z,hw⟩:=hv.start;obtain⟨z',hw'⟩:=hv.fin;have hN:=z.n;have hi:=idx_lt hw;have hi':=idx_lt hw';generalize hW0:rest.map (fun n:Nat=>(n:Int))=W0 at hv hw hw';have hW:W0.length<=800:=z.wl _ (yB hw);have hrl:W0.length=rest.length:=by rw[<-hW0,zA]
 refine h.get (a:=.watches) id rfl ?_;refine s_place_of Y (d:=d-1) (dd hd rfl) ?_;refine get_val (h.at .watches rfl id) (by rw[zA,yQ,z.ws];exact lA 0x78282054312000673e3320422142200 tT hN) (plc_eq gone) (y:=lo k g (wt g (plN gone))) (by rw[zX,List.getElem?_range hi];rfl) ?_;refine r_newL (.core k (other g (plN gone))) (yA _) ?_;have F1:Fr D0 k 0 S _:=Fr.refl.alloc (x:=other g (plN gone)) id (.list []);have H1:HasG (S.alloc (.core k (other g (plN gone))) (.list [])) k g p j:=h.dead (dead_none (dead_other g (plN gone))) fun y hy=>alloc_ne hy;have hk1:(S.alloc (.core k (other g (plN gone))) (.list [])).H (.core k (other g (plN gone)))=some (S.n,.list (iL [])):=alloc_eq;generalize S.alloc _ _=S1 at F1 H1 hk1⊢;generalize S.n=nk at hk1⊢;refine r_gl glb4 ?_;refine⟨nb rfl,?_⟩;refine⟨_,rfl,rfl,(by show∀i∈[2,3,4],i<8;decide),?_⟩;show wpSts (Y.E (d-1)) (.cons _ _) [some (lo k g .core),some (.int gone),some (lo k g (wt g (plN gone))),some (.loc (.core k (other g (plN gone))) nk),some (.int (-1)),none,none,none] S1 (retQ Q);refine len_ints (H1.at (wt g (plN gone)) (obj_wt hw) id) (lw hW rfl) ?_;refine⟨by decide,by exact lB 0x75654021054020006032332101683e33200 tT hW (zY (lA 0x73654020002 tT)),.inl rfl,?_⟩;rw[rng_up (a:=0) (m:=0) rfl rfl,Nat.sub_zero,hrl];refine vis_loop Y (d:=d) (yU hd) hW hv 0 S1 j none none none (fun m n hm=>by rw[Nat.zero_add,<-hW0,zX,hm];rfl) H1 hj hk1 F1 fun S2 j2 x5 x6 x7 H2 hj2 hk2 F2=>?_;refine H2.get (a:=.watches) id rfl ?_;refine s_place_of Y (d:=d-1) (dd hd rfl) ?_;refine set_val (H2.at .watches rfl id) (by rw[zA,yQ,z'.ws];exact lA 0x78282054312000673e3320422142200 tT hN) (plc_eq gone) (by rw[zA,yQ];exact hi') ?_;have H3:=H2.flip hi' (fun _=>id) hk2;have F3:=F2.put (x:=.watches) id (g.v .watches) (.list (((List.range p'.ws.length).map fun i=>lo k g (wt g i)).set (plN gone) (.loc (.core k (other g (plN gone))) nk)));exact q _ (flipG g (plN gone) nk) _ (by show(if CT.core=other g (plN gone)then nk else g.v .core)=_;exact zN (nD rfl)) H3 hj2 F3
inductive Prop'(N:Nat):P->P->Prop|done{p:P}:p.hd=p.tr.length->p.tr.length<=800->Prop' N p p|step{p p' p2:P}{h:Nat}{lit:Int}{rest:List Nat}{kept':List Int}:p.hd=h->p.tr[h]?=some lit->p.tr.length<=800->Vis N (-lit) (rest.map fun n:Nat=>(n:Int)) rest (p.sHd (h+1)) [] p' kept'->Prop' N (p'.sWs (p'.ws.set (plN (-lit)) kept')) p2->Prop' N p p2
theorem prop_loop(hd:7<=d)(hr:Prop' N p p'):∃n,∀(S:AS)(g:Gh)(j:J)(s:Val)(x1 x2:Option Val)(Q:SQ),s=lo k g .core->HasG S k g p j->JOk N j->(∀x1 x2 S' g' j',g'.v .core=g.v .core->HasG S' k g' p' j'->JOk N j'->Fr D0 k 0 S S'->Q .next [some s,x1,x2] S')->whO (wpB (Y.E (d-1)) (.cmp .lt (.at (.lc 0) .head) (.len (.at (.lc 0) .trail)))) (wpSts (Y.E (d-1)) (match body_t_prop with|.cons (.whl _ b) _=>b|b=>b)) n [some s,x1,x2] S Q:=by
 induction hr with|@done p hh ht=>
  refine⟨1,fun S g j s x1 x2 Q hs H hj q=>whO_step fun T tf _=>?_⟩;subst hs;refine H.get (a:=.head) id rfl ?_;refine H.get (a:=.trail) id rfl ?_;refine len_ints (H.at .trail rfl id) (lw ht rfl) ?_;exact r_lt false (by simp[hh]) (tf _ (q _ _ _ _ _ rfl H hj Fr.refl))|@step p p' p2 h lit rest kept' hh hl ht hv hr ih=>
  obtain⟨m,ih⟩:=ih;refine⟨m+1,fun S g j s x1 x2 Q hs H hj q=>whO_step fun T _ tt=>?_⟩;subst hs;refine H.get (a:=.head) id rfl ?_;refine H.get (a:=.trail) id rfl ?_;refine len_ints (H.at .trail rfl id) (lw ht rfl) ?_;refine r_lt true (by have :=idx_lt hl;simp[hh,this]) ?_;refine tt _ fun K kn _ _ _=>?_;refine H.get (a:=.trail) id rfl ?_;refine H.get (a:=.head) id rfl ?_;refine get_int (H.at .trail rfl id) (lw ht rfl) hh hl ?_;refine⟨nb rfl,?_⟩;refine H.get (a:=.head) id rfl ?_;refine set_attr (H.at .core rfl id) ?_;rw[hh];have H1:=H.pHd (h+1);have F1:Fr D0 k 0 S _:=Fr.refl.put (x:=.core) id (g.v .core) (.inst .search (fun b=>if b=At.head then some (.int (h+1))else attrs k g p b));generalize S.put _ _ _=S1 at H1 F1⊢;refine⟨H1.inst id rfl,?_⟩;refine s_visit Y (d:=d-1) (dd hd rfl) hv H1 hj fun S2 g2 j2 hg2 H2 hj2 F2=>?_;refine⟨nb rfl,?_⟩;refine r_gl glb4 ?_;refine r_ne false rfl ?_;refine kn _ _ (ih S2 g2 j2 (lo k g .core) _ _ _ (by rw[lo,lo,hg2]) H2 hj2 fun x1 x2 S' g' j' hg' H' hj' F'=>?_);exact q _ _ _ _ _ (hg'.trans hg2) H' hj' ((F1.trans F2).trans F')
theorem s_prop(hd:8<=d)(hr:Prop' N p p')(h:HasG S k g p j)(hj:JOk N j)(q:∀S' g' j',g'.v .core=g.v .core->HasG S' k g' p' j'->JOk N j'->Fr D0 k 0 S S'->Q (.int (-1)) S'):Y.C d .s_prop [lo k g .core] S Q:=by
 refine Y.run 0 (zE (nb rfl) hd) (by decide) rfl ?_;refine⟨h.inst id rfl,?_⟩;refine Y.run 2 (yH (zE (nb rfl) hd)) (by decide) rfl ?_;obtain⟨n,hn⟩:=prop_loop (k:=k) (d:=d-1) Y (dd hd rfl) hr;refine⟨n,hn S g j _ _ _ _ rfl h hj fun x1 x2 S' g' j' hg' H' hj' F'=>?_⟩;exact r_gl glb4 (q _ _ _ hg' H' hj' F')
structure COk(N:Nat)(p:P)(c:List Int):Prop where
 sa:SA c
 len:c.length<=3
 pos:1<=c.length
 z:∀x∈c,x≠0
 b:∀x∈c,x.natAbs<=N
 v:pv p.asg ((byH p.asg c).getD 0 0)≠-1
 n:∀x∈c,pv p.asg x=-1->x.natAbs≠N
noncomputable def stoP(p:P)(c:List Int)(s:Int):P:=placeP ((p.sCl (p.cl++[c])).sSp (p.sp++[s])) p.cl.length c
theorem s_add(hd:6<=d)(z:VSz N p)(co:COk N p c)(hsp:p.sp.length<=800)(h:HasG S k g p j)(hj:JOk N j)(q:∀S' g' j',g'.v .core=g.v .core->HasG S' k g' (stoP p c s) j'->JOk N j'->Fr D0 k 1 S S'->Q (.bool true) S'):Y.C d .s_add [lo k g .core,.tup (iL c),.int s] S Q:=by
 refine Y.run 2 (zE (nb rfl) hd) (by decide) rfl ?_;refine s_clause_of Y (d:=d-1) (dd hd rfl) (l:=c) (fun _ _=>rfl) co.len co.sa.da fun S1 F1=>?_;rw[srtA_id co.sa];have H1:=h.frT F1;have F1':Fr D0 k 1 S S1:=F1.fr;refine⟨nb rfl,?_⟩;refine⟨H1.inst id rfl,?_⟩;refine s_cancel0 Y (d:=d-1) (dd hd rfl) H1 id id z.st0 (by decide) ?_;refine H1.get (a:=.is_ok) id rfl ?_;refine s_always Y (d:=d-1) (dd hd rfl) co.sa (lw co.len rfl) ?_;refine⟨H1.inst id rfl,?_⟩;refine⟨H1.inst id rfl,?_⟩;refine s_store Y (d:=d-1) (dd hd rfl) H1 (lw z.cl rfl) (lw hsp rfl) (lw co.len rfl) fun S2 g2 hg2 H2 F2=>?_;have e:lo k g .core=lo k g2 .core:=by rw[lo,lo,hg2]
 show Y.C (d-1) .t_place [lo k g .core,.int p.cl.length] S2 _;rw[e];have hjz:Sz N ((p.sCl (p.cl++[c])).sSp (p.sp++[s])) j:=⟨z.n,z.asg,z.rea,hj.lev,hj.spo,lw z.tr rfl,lw z.st rfl⟩;refine s_place Y (d:=d-1) (dd hd rfl) H2 hjz (l:=c) (by show(p.cl++[c])[p.cl.length]?=some c;simp) co.sa co.len co.pos (by show(p.cl++[c]).length<=900;rw[zJ];exact zE (Nat.add_le_add_right z.cl 1) (nb rfl)) z.ws z.wl co.b z.st0 (fun x hx hv=>hj.z _ (co.n x hx hv)) co.v fun S3 g3 j3 hg3 hj3 H3 F3=>?_;have hjk:JOk N j3:=by
  clear h H1 H2 hjz H3;rcases hj3 with rfl|⟨p1,a,h1,_,rfl⟩;.exact hj
  .exact hj.enq h1 a
 refine⟨nb rfl,?_⟩;refine r_gl glb4 ?_;refine r_ne false rfl ?_;rw[<-e];have e3:lo k g .core=lo k g3 .core:=by rw[lo,lo,hg3,hg2]
 have hget:∀(μ:Mu)(K:VQ),K (.bool true) S3->wpX (Y.E (d-1)) (.at (.lc 0) .is_ok) (some (lo k g .core)::μ) S3 K:=fun μ K hK=>by
  refine x_at (lc_rule rfl ?_);rw[e3];exact H3.get (a:=.is_ok) id rfl hK
 show wpX (Y.E (d-1)) (.at (.lc 0) .is_ok) [some (lo k g .core),some (.tup (iL c)),some (.int s),some (.tup (iL c)),some (.int (-1))] S3 _;refine hget _ _ ?_;exact q S3 g3 j3 (hg3.trans hg2) H3 hjk (F1'.trans ((F2.trans F3).up (by decide) fun _=>id))
variable{c:Cls}{s:Nat}
noncomputable def addP(p:P)(c:List Int):P:=stoP (p.sPs (p.ps++[.inp c p.ps.length])) c p.ps.length
inductive Tkn(N:Nat):List (List Int)->P->P->Prop|nil{p p':P}:Prop' N p p'->Tkn N [] p p'|cons{p p':P}{c:List Int}{lot:List (List Int)}:VSz N p->p.sp.length<=800->p.ps.length<=800->COk N p c->Tkn N lot (addP p c) p'->Tkn N (c::lot) p p'
noncomputable def cV(c:List Int):Val:=.tup (iL c)
theorem taken_loop(hd:7<=d){v:Val}{all:List (List Int)}(hv:∀S',Fr D0 k 3 S0 S'->S'.seqOf v=some (all.map cV)){s:Val}{Q:SQ}(t:Tkn N lot p p'):∀(S:AS)(g:Gh)(j:J)(x2:Option Val),s=lo k g .core->HasG S k g p j->JOk N j->Fr D0 k 3 S0 S->(∀p1 x2 S' g' j',g'.v .core=g.v .core->Prop' N p1 p'->HasG S' k g' p1 j'->JOk N j'->Fr D0 k 3 S0 S'->Q .next [some s,some v,x2] S')->forO (fun x μ S K=>bindNames [2] x μ fun μ=>wpSts (Y.E (d-1)) (match body_taken with|.cons _ (.cons (.for_ _ _ b) _)=>b|_=>.nil) μ S K) (fun S'=>S'.seqOf v=some (all.map cV)) (lot.map cV) [some s,some v,x2] S Q:=by
 induction t with|nil hp=>
  intro S g j x2 hs h hj F q;exact forO_nil (hv _ F) (q _ _ _ _ _ rfl hp h hj F)|@cons p p' c lot z hsp hps co t ih=>
  intro S g j x2 hs h hj F q;rw[List.map_cons];refine forO_cons (hv _ F) fun K kn _ _ _=>?_;refine⟨nb rfl,?_⟩;subst hs;refine⟨h.inst id rfl,?_⟩;refine h.get (a:=.proof) id rfl ?_;refine⟨h.instP id rfl,?_⟩;refine⟨yA _,?_⟩;refine h.get (a:=.proof) id rfl ?_;refine⟨h.instP id rfl,?_⟩;refine s_p_size Y (d:=d-1) (dd hd rfl) h id id (lw hps rfl) ?_;refine s_p_add Y (d:=d-1) (dd hd rfl) h id id (lw hps rfl) (x:="input") (c:=c) (pr:=[]) (note:=.int p.ps.length) (st:=.inp c p.ps.length) (.inl rfl) co.sa co.z (by intro e;have :=co.pos;rw[e]at this;exact absurd this (by decide)) (lw co.len rfl) (yA _) (fun _ h=>by cases h) rfl fun S1 H1 F1=>?_;refine s_add Y (d:=d-1) (dd hd rfl) (N:=N) (c:=c) (p:=p.sPs (p.ps++[.inp c p.ps.length])) ⟨⟨z.n,z.asg,z.rea,z.tr,z.st⟩,z.st0,z.ws,z.wl,z.cl⟩ ⟨co.sa,co.len,co.pos,co.z,co.b,co.v,co.n⟩ hsp H1 hj fun S2 g2 j2 hg2 H2 hj2 F2=>?_;refine kn _ _ (ih S2 g2 j2 _ (by rw[lo,lo,hg2]) H2 hj2 (F.trans ((F1.up (yA _) fun _=>id).trans (F2.up (by decide) fun _=>id))) fun p1 x2 S' g' j' hg' hp' H' hj' F'=>?_);exact q _ _ _ _ _ (hg'.trans hg2) hp' H' hj' F'
noncomputable def lvP(N:Nat)(p:P):P:=enqP (p.sSt [(p.tr.length:Int)]) N (-1)
structure LvOk(N:Nat)(p:P):Prop where
 asg:p.asg[N]?=some 0
 rea:p.rea[N]?=some (-1)
 hd:p.hd=p.tr.length
 st:p.st=[]
 la:p.asg.length=N+1
 lr:p.rea.length=N+1
 n:N<=20
 tr:p.tr.length<=100
 hp:∃x:Int,p.hP[N]?=some x/\0<=x
 lp:p.hP.length<=800
theorem cancel_lv(h:LvOk N p):cancelP (lvP N p) p.tr N=p:=by
 have e1:((lvP N p).asg.set N 0)=p.asg:=by
  show(p.asg.set (N:Int).natAbs _).set N 0=p.asg;rw[Int.natAbs_natCast,List.set_set];obtain⟨h1,h2⟩:=zM.mp h.asg;rw[<-h2,List.set_getElem_self]
 have e2:((lvP N p).rea.set N (-1))=p.rea:=by
  show(p.rea.set (N:Int).natAbs _).set N (-1)=p.rea;rw[Int.natAbs_natCast,List.set_set];obtain⟨h1,h2⟩:=zM.mp h.rea;rw[<-h2,List.set_getElem_self]
 have e3:Min.min (lvP N p).hd (p.tr.length:Int)=p.hd:=by
  show Min.min p.hd (p.tr.length:Int)=p.hd;rw[h.hd];omega
 unfold cancelP;rw[e1,e2,e3];have :=h.st;clear h e1 e2 e3;cases p;simp only[P.sAsg,P.sRea,P.sTr,P.sSt,P.sHd,lvP,enqP]at this⊢;rw[this]
theorem s_taken(hd:9<=d){v:Val}{p0:P}(hp:(p0=p/\p.st=[])\/(p0=lvP N p/\LvOk N p))(hl:lot.length<=900)(hv:∀S',Fr D0 k 3 S S'->S'.seqOf v=some (lot.map cV))(t:Tkn N lot p p')(h:HasG S k g p0 j)(hj:JOk N j)(q:∀S' g' j',g'.v .core=g.v .core->HasG S' k g' p' j'->JOk N j'->Fr D0 k 3 S S'->Q (.bool true) S'):Y.C d .taken [lo k g .core,v] S Q:=by
 refine Y.run 1 (zE (nb rfl) hd) (by decide) rfl ?_;refine⟨h.inst id rfl,?_⟩;have key:∀S1 g1 j1,g1.v .core=g.v .core->HasG S1 k g1 p j1->JOk N j1->Fr D0 k 3 S S1->wpSts (Y.E (d-1)) (match body_taken with|.cons _ r=>r|r=>r) [some (lo k g .core),some v,none] S1 (retQ Q):=fun S1 g1 j1 hg1 H1 hj1 F1=>by
  refine⟨_,hv _ F1,by rw[zA];exact lw hl rfl,?_⟩;refine taken_loop Y (d:=d) (zE (nb rfl) hd) hv t S1 g1 j1 none (by rw[lo,lo,hg1]) H1 hj1 F1 fun p1 x2 S2 g2 j2 hg2 hp2 H2 hj2 F2=>?_;have e:lo k g .core=lo k g2 .core:=by rw[lo,lo,hg2,hg1]
  rw[e];refine⟨H2.inst id rfl,?_⟩;refine s_prop Y (d:=d-1) (dd hd rfl) hp2 H2 hj2 fun S3 g3 j3 hg3 H3 hj3 F3=>?_;refine r_eq true rfl ?_;exact q _ _ _ (hg3.trans (hg2.trans hg1)) H3 hj3 (F2.trans (F3.up (yA _) fun _=>id))
 rcases hp with⟨rfl,hst⟩|⟨rfl,o⟩;.exact s_cancel0 Y (d:=d-1) (dd hd rfl) h id id hst (by decide) (key S g j rfl h hj Fr.refl)
 .refine xea o.hp fun x hx hx0=>?_;have hN:N+1<=900:=zE (Nat.succ_le_succ o.n) (nb rfl);have ha:(lvP N p).asg.length=N+1:=(yD ..).trans o.la;have hr:(lvP N p).rea.length=N+1:=(yD ..).trans o.lr;refine s_cancel1 Y (d:=d-1) (dd hd rfl) h (b:=p.tr) (m:=N) rfl rfl o.tr (ha▸xA N) (ha▸hN) (hr▸xA N) (hr▸hN) (hj.pha▸xA N) (hj.pha▸hN) hx hx0 (lw o.lp rfl) fun S1 g1 y hg1 H1 F1=>?_;rw[cancel_lv o]at H1;exact key S1 g1 _ hg1 H1 (hj.sPha N y) (F1.up (yA _) fun _=>id)
def HasM(S:AS)(k:Nat)(m:CT->Option HObj)(v:CT->Nat):Prop:=∀x o,m x=some o->S.H (.core k x)=some (v x,o)
noncomputable def upd(m:CT->Option HObj)(x:CT)(o:HObj):CT->Option HObj:=fun y=>if y=x then some o else m y
noncomputable def updV(v:CT->Nat)(x:CT)(n:Nat):CT->Nat:=fun y=>if y=x then n else v y
noncomputable def updA(at_:At->Option Val)(a:At)(y:Val):At->Option Val:=fun b=>if b=a then some y else at_ b
theorem HasM.put(h:HasM S k m v)(x:CT)(o:HObj):HasM (S.put (.core k x) (v x) o) k (upd m x o) v:=fun y o' e=>by
 unfold upd at e;by_cases q:y=x;.subst q;rw[zU rfl]at e;cases e;exact put_eq
 .rw[zN q]at e;rw[put_ne q];exact h y o' e
theorem HasM.alloc(h:HasM S k m v)(x:CT)(o:HObj):HasM (S.alloc (.core k x) o) k (upd m x o) (updV v x S.n):=fun y o' e=>by
 unfold upd at e;unfold updV;by_cases q:y=x;.subst q;rw[zU rfl]at e;cases e;rw[zU rfl];exact alloc_eq
 .rw[zN q]at e;rw[alloc_ne q,zN q];exact h y o' e
theorem m_app{x:CT}{rest:Sts}{Q:SQ}(h:HasM S k m v)(hv:v own=n0)(hc:m own=some (.inst c at_))(ok:okAt c a=true)(ha:at_ a=some (.loc (.core k x) (v x)))(hx:m x=some (.list ys))(he:∀K:VQ,K y S->wpX E e (some (.loc (.core k own) n0)::μ) S K)(hl:ys.length<=900)(q:∀S',HasM S' k (upd m x (.list (ys++[y]))) v->Fr D0 k 0 S S'->wpSts E rest (some (.loc (.core k own) n0)::μ) S' Q):wpSts E (.cons (.ex (.app (.at (.lc 0) a) e)) rest) (some (.loc (.core k own) n0)::μ) S Q:=by
 subst hv;refine s_ex (x_app (x_at (lc_rule rfl ?_)));have hh:=h _ _ hx;refine .mk rfl (h _ _ hc) ok ha ⟨⟨_,_,_,rfl,hh⟩,he _ (r_app hh hl ?_)⟩;exact q _ (h.put x (.list (ys++[y]))) (Fr.refl.put id _ _)
theorem m_end(q:Q .none S):wpSts E .nil μ S (retQ Q):=q
noncomputable def ix:CT->Nat|.proof=>0|.psteps=>1|.pnamed=>2|.core=>3|.assigns=>4|.levels=>5|.reasons=>6|.spots=>7|.phases=>8|.watch 0=>9|.watch _=>10|.watches=>11|.heapO=>12|.hAct=>13|.hHeap=>14|.hPlace=>15|.trail=>16|.starts=>17|.clauses=>18|.steps=>19|.drop=>20|.acts=>21|.seen=>22|.usteps=>23|.clause _=>24
noncomputable abbrev lI(k N:Nat)(x:CT):Val:=.loc (.core k x) (N+ix x)
abbrev MF:=(CT->Val)->CT->Option HObj
abbrev AF:=(CT->Val)->At->Option Val
noncomputable def vM(M:MF)(x:CT)(ys:(CT->Val)->List Val):MF:=fun l=>upd (M l) x (.list (ys l))
noncomputable def vA(A:AF)(a:At)(y:(CT->Val)->Val):AF:=fun l=>updA (A l) a (y l)
noncomputable def oM(M:MF)(x:CT)(c:Cls)(A:AF):MF:=fun l=>upd (M l) x (.inst c (A l))
noncomputable def nA:AF:=fun _ _=>none
def Ini(S0 S:AS)(k i:Nat)(own:CT)(c:Cls)(M:MF)(A:AF):Prop:=S.n=S0.n+i/\HasM S k (oM M own c A (lI k S0.n)) (fun x=>S0.n+ix x)/\Fr D0 k 0 S0 S
theorem upd_self(m:CT->Option HObj)(x:CT)(o p:HObj):upd (upd m x o) x p=upd m x p:=funext fun y=>by unfold upd;split<;>rfl
theorem upd_comm(m:CT->Option HObj){x y:CT}(h:x≠y)(o p:HObj):upd (upd m x o) y p=upd (upd m y p) x o:=funext fun z=>by
 unfold upd;split;.rename_i e;rw[zN fun q=>h (q.symm.trans e)]
 .rfl
theorem has_own(h:HasM S k (oM M own c A (lI k S0.n)) v)(at_:At->Option Val):HasM (S.put (.core k own) (v own) (.inst c at_)) k (upd (M (lI k S0.n)) own (.inst c at_)) v:=by
 have :=h.put own (.inst c at_);rw[oM,upd_self]at this;exact this
theorem i_val(a:At)(y:(CT->Val)->Val)(h:Ini S0 S k i own c M A)(he:∀K:VQ,K (y (lI k S0.n)) S->wpX E e (some (lI k S0.n own)::μ) S K)(q:∀S',Ini S0 S' k i own c M (vA A a y)->wpSts E rest (some (lI k S0.n own)::μ) S' K):wpSts E (.cons (.asg (.at (.lc 0) a) e) rest) (some (lI k S0.n own)::μ) S K:=s_asg (he _ (t_at (lc_rule rfl (set_attr (h.2.1 own _ (zU rfl)) (q _ ⟨h.1,has_own h.2.1 _,h.2.2.put id _ _⟩)))))
theorem Ini.al(h:Ini S0 S k i own c M A)(x:CT)(hn:ix x=i)(hx:(own==x)=false)(ys:(CT->Val)->List Val):Ini S0 (S.alloc (.core k x) (.list (ys (lI k S0.n)))) k (i+1) own c (vM M x ys) A:=by
 refine xa2 h fun h1 h2 h3=>?_;refine⟨zG (.+1) h1,fun y o e=>?_,h3.alloc id _⟩;have H:=h2.alloc x (.list (ys (lI k S0.n))) y o;rw[oM,upd_comm _ (zQ.mp hx)]at H;have H:=H e;rw[h1,<-hn]at H;refine H.trans (zG (fun n=>some (n,o)) ?_);unfold updV;split;.rename_i e;rw[e]
 .rfl
theorem i_lst(a:At)(x:CT)(ys:(CT->Val)->List Val)(h:Ini S0 S k i own c M A)(he:∀K:List Val->AS->Prop,K (ys (lI k S0.n)) S->wpXs E es (some (lI k S0.n own)::μ) S K)(hn:ix x=i)(hx:(own==x)=false)(hl:(ys (lI k S0.n)).length<=900)(q:∀S',Ini S0 S' k (i+1) own c (vM M x ys) (vA A a fun l=>l x)->wpSts E rest (some (lI k S0.n own)::μ) S' K):wpSts E (.cons (.asg (.at (.lc 0) a) (.lst es)) rest) (some (lI k S0.n own)::μ) S K:=by
 refine s_asg (x_lst (he _ (r_newL (.core k x) (lw hl rfl) (t_at ?_))));have H:=h.al x hn hx ys;have e:S.n=S0.n+ix x:=h.1.trans (zG _ hn.symm);refine lc_rule rfl (set_attr (H.2.1 own _ (zU rfl)) ?_);rw[e];exact q _ ⟨H.1,has_own H.2.1 _,H.2.2.put id _ _⟩
variable{A:List Int}
theorem i_p_init(hd:1<=d)(h:Ini S0 S k 1 .proof .proof M nA)(q:∀S',Ini S0 S' k 3 .proof .proof (vM (vM M .psteps fun _=>[]) .pnamed fun _=>[.int 0]) (vA (vA (vA nA .steps fun l=>l .psteps) .named fun l=>l .pnamed) .empty fun _=>.int (-1))->Q .none S'):Y.C d .p_init [lI k S0.n .proof] S Q:=by
 refine Y.run 0 hd (by decide) rfl ?_;refine i_lst .steps .psteps (fun _=>[]) h (fun K q=>q) rfl rfl (yA _) fun S1 h1=>?_;refine i_lst .named .pnamed (fun _=>[.int 0]) h1 (fun K q=>q) rfl rfl (nb rfl) fun S2 h2=>?_;exact i_val .empty (fun _=>.int (-1)) h2 (fun K q=>q) q
theorem i_h_init(hd:1<=d)(h:Ini S0 S k 13 .heapO .heap M nA)(q:∀S',Ini S0 S' k 16 .heapO .heap (vM (vM (vM M .hAct fun _=>[.int 0]) .hHeap fun _=>[]) .hPlace fun _=>[.int (-1)]) (vA (vA (vA (vA (vA nA .limit fun _=>.int 1000000000000) .step fun _=>.int 1024) .activity fun l=>l .hAct) .heap fun l=>l .hHeap) .place fun l=>l .hPlace)->Q .none S'):Y.C d .h_init [lI k S0.n .heapO] S Q:=by
 refine Y.run 0 hd (by decide) rfl ?_;refine i_val .limit (fun _=>.int 1000000000000) h (fun K q=>q) fun S1 h1=>?_;refine i_val .step (fun _=>.int 1024) h1 (fun K q=>r_gl glb5 q) fun S2 h2=>?_;refine i_lst .activity .hAct (fun _=>[.int 0]) h2 (fun K q=>q) rfl rfl (nb rfl) fun S3 h3=>?_;refine i_lst .heap .hHeap (fun _=>[]) h3 (fun K q=>q) rfl rfl (yA _) fun S4 h4=>?_;exact i_lst .place .hPlace (fun _=>[.int (-1)]) h4 (fun K q=>q) rfl rfl (nb rfl) q
structure Hp(S:AS)(k n0 a1 a2 a3:Nat)(hat:At->Option Val)(A H L:List Int):Prop where
 o:S.H (.core k .heapO)=some (n0,.inst .heap hat)
 x1:hat .activity=some (.loc (.core k .hAct) a1)
 x2:hat .heap=some (.loc (.core k .hHeap) a2)
 x3:hat .place=some (.loc (.core k .hPlace) a3)
 A:S.H (.core k .hAct)=some (a1,.list (iL A))
 H:S.H (.core k .hHeap)=some (a2,.list (iL H))
 L:S.H (.core k .hPlace)=some (a3,.list (iL L))
def FrH(k:Nat)(S S':AS):Prop:=∀t,t≠.core k .hAct->t≠.core k .hHeap->t≠.core k .hPlace->S'.H t=S.H t
theorem Hp.get(h:Hp S k n0 a1 a2 a3 hat A H L){x:Val}(e:hat a=some x)(q:Q x S):attrGet (.loc (.core k .heapO) n0) a S Q:=by
 exact .mk rfl h.o rfl e q
theorem Hp.inst(h:Hp S k n0 a1 a2 a3 hat A H L)(hm:methOf .heap f=true):isInst (.loc (.core k .heapO) n0) f S:=by
 exact isInst_of h.o hm fun e=>by subst e;cases hm
theorem Hp.pA(h:Hp S k n0 a1 a2 a3 hat A H L)(A':List Int):Hp (S.put (.core k .hAct) a1 (.list (iL A'))) k n0 a1 a2 a3 hat A' H L:=⟨(put_ne (x:=.hAct) (y:=.heapO) (nD rfl)).trans h.o,h.x1,h.x2,h.x3,put_eq,(put_ne (x:=.hAct) (y:=.hHeap) (nD rfl)).trans h.H,(put_ne (x:=.hAct) (y:=.hPlace) (nD rfl)).trans h.L⟩
theorem Hp.pH(h:Hp S k n0 a1 a2 a3 hat A H L)(A':List Int):Hp (S.put (.core k .hHeap) a2 (.list (iL A'))) k n0 a1 a2 a3 hat A A' L:=⟨(put_ne (x:=.hHeap) (y:=.heapO) (nD rfl)).trans h.o,h.x1,h.x2,h.x3,(put_ne (x:=.hHeap) (y:=.hAct) (nD rfl)).trans h.A,put_eq,(put_ne (x:=.hHeap) (y:=.hPlace) (nD rfl)).trans h.L⟩
theorem Hp.pL(h:Hp S k n0 a1 a2 a3 hat A H L)(A':List Int):Hp (S.put (.core k .hPlace) a3 (.list (iL A'))) k n0 a1 a2 a3 hat A H A':=⟨(put_ne (x:=.hPlace) (y:=.heapO) (nD rfl)).trans h.o,h.x1,h.x2,h.x3,(put_ne (x:=.hPlace) (y:=.hAct) (nD rfl)).trans h.A,(put_ne (x:=.hPlace) (y:=.hHeap) (nD rfl)).trans h.H,put_eq⟩
theorem FrH.refl:FrH k S S:=fun _ _ _ _=>rfl
theorem FrH.trans(a:FrH k S S')(b:FrH k S' S''):FrH k S S'':=fun t h1 h2 h3=>(b t h1 h2 h3).trans (a t h1 h2 h3)
theorem FrH.pA(a:FrH k S S'):FrH k S (S'.put (.core k .hAct) n o):=fun t h1 h2 h3=>(zN h1).trans (a t h1 h2 h3)
theorem FrH.pH(a:FrH k S S'):FrH k S (S'.put (.core k .hHeap) n o):=fun t h1 h2 h3=>(zN h2).trans (a t h1 h2 h3)
theorem FrH.pL(a:FrH k S S'):FrH k S (S'.put (.core k .hPlace) n o):=fun t h1 h2 h3=>(zN h3).trans (a t h1 h2 h3)
noncomputable abbrev hv(k n0:Nat):Val:=.loc (.core k .heapO) n0
theorem s_many(hd:1<=d)(h:Hp S k n0 a1 a2 a3 hat A H L)(hl:A.length<=900)(q:Q (.int (A.length-1)) S):Y.C d .h_many [hv k n0] S Q:=by
 refine Y.run 0 hd (by decide) rfl ?_;refine h.get h.x1 ?_;exact len_ints h.A (lw hl rfl) q
theorem s_before(hd:1<=d)(h:Hp S k n0 a1 a2 a3 hat A H L)(hl:A.length<=900){y:Nat}(hx:A[x]?=some 0)(hy:A[y]?=some 0)(hlt:¬x<y)(q:Q (.bool false) S):Y.C d .h_before [hv k n0,.int x,.int y] S Q:=by
 refine Y.run 0 hd (by decide) rfl ?_;refine h.get h.x1 ?_;refine get_int h.A (lw hl rfl) rfl hx ?_;refine h.get h.x1 ?_;refine get_int h.A (lw hl rfl) rfl hy ?_;refine r_ne false rfl ?_;exact r_lt false (yR fun z=>hlt (Int.ofNat_lt.mp z)) q
theorem s_hput(hd:1<=d)(h:Hp S k n0 a1 a2 a3 hat A H L)(h1:H.length<=900)(h2:L.length<=900)(hs:s<H.length)(hx:x<L.length)(q:∀S',Hp S' k n0 a1 a2 a3 hat A (H.set s x) (L.set x s)->FrH k S S'->Q .none S'):Y.C d .h_put [hv k n0,.int s,.int x] S Q:=by
 refine Y.run 0 hd (by decide) rfl ?_;refine h.get h.x2 ?_;refine set_int h.H (lw h1 rfl) rfl hs ?_;have g:=h.pH (H.set s x);have F:FrH k S _:=FrH.refl.pH (n:=a2) (o:=.list (iL (H.set s x)));refine g.get g.x3 ?_;refine set_int g.L (lw h2 rfl) rfl hx ?_;exact q _ (g.pL _) F.pL
theorem s_rise(hd:2<=d)(h:Hp S k n0 a1 a2 a3 hat A H L)(h0:A.length<=900)(h1:H.length<=900)(h2:L.length<=900)(hs:H[s]?=some (x:Int))(hx:x<L.length)(hA:A[x]?=some 0)(hb:∀i,i<s->∃y:Nat,H[i]?=some (y:Int)/\A[y]?=some 0/\¬x<y)(q:∀S',Hp S' k n0 a1 a2 a3 hat A H (L.set x s)->FrH k S S'->Q .none S'):Y.C d .h_rise [hv k n0,.int s] S Q:=by
  refine Y.run 2 (yU hd) (by decide) rfl ?_;have hsl:=idx_lt hs;refine h.get h.x2 ?_;refine get_int h.H (lw h1 rfl) rfl hs ?_;refine⟨nb rfl,1,?_⟩;have fin:∀z:Option Val,wpSts (Y.E (d-1)) (.cons (.ex (.meth (.lc 0) .h_put (.cons (.lc 1) (.cons (.lc 2) .nil)))) .nil) [some (hv k n0),some (.int s),some (.int x),z] S (retQ Q):=fun z=>by
    refine⟨h.inst rfl,?_⟩;refine s_hput Y (d:=d-1) (dd hd rfl) h h1 h2 hsl hx fun S' g F=>?_;obtain⟨e1,e2⟩:=zM.mp hs;rw[<-e2,List.set_getElem_self]at g;exact q _ g F
  refine whO_step fun T tf tt=>?_;by_cases c:s=0;.refine r_gt false (by rw[c];rfl) (tf _ (fin _))
  . refine r_gt true (by simp;exact(Nat.lt_or_gt_of_ne c).elim (fun a=>lA 0x71602008080150002 tT a) fun a=>lA 0x7160002160002 tT a) (tt _ fun K _ _ kb _=>?_);have e:(Int.fdiv ((s:Int)-1) 2)=(((s-1)/2:Nat):Int):=by
      rw[Int.fdiv_eq_ediv_of_nonneg _ (by decide)];exact zG (./2) (Int.ofNat_sub (Nat.pos_of_ne_zero c)).symm
    refine xea2 (hb ((s-1)/2) (Nat.lt_of_le_of_lt (Nat.div_le_self _ _) (Nat.sub_lt (Nat.pos_of_ne_zero c) Nat.one_pos))) fun y hy hAy hlt=>?_;refine⟨by decide,rfl,?_⟩;rw[e];refine⟨nb rfl,?_⟩;refine⟨h.inst rfl,?_⟩;refine h.get h.x2 ?_;refine get_int h.H (lw h1 rfl) rfl hy ?_;refine s_before Y (d:=d-1) (dd hd rfl) h h0 hA hAy hlt ?_;exact kb _ _ (fin _)
theorem s_push1(hd:3<=d)(h:Hp S k n0 a1 a2 a3 hat A H L)(h0:A.length<=900)(h1:H.length<=800)(h2:L.length<=900)(hx:L[x]?=some (-1))(hA:A[x]?=some 0)(hb:∀i,i<H.length->∃y:Nat,H[i]?=some (y:Int)/\A[y]?=some 0/\¬x<y)(q:∀S',Hp S' k n0 a1 a2 a3 hat A (H++[(x:Int)]) (L.set x H.length)->FrH k S S'->Q .none S'):Y.C d .h_push [hv k n0,.int x] S Q:=by
 refine Y.run 0 (zE (nb rfl) hd) (by decide) rfl ?_;refine⟨h.inst rfl,?_⟩;have h3:(H++[(x:Int)]).length<=900:=by rw[zJ];exact zE (Nat.add_le_add_right h1 1) (nb rfl)
 have e1:((H++[(x:Int)]).length:Int)-1=(H.length:Int):=by rw[zJ];simp
 refine Y.run 0 (yH (Nat.lt_of_succ_le (zE (nb rfl) hd))) (by decide) rfl ?_;refine h.get h.x3 ?_;refine get_int h.L (lw h2 rfl) rfl hx ?_;refine r_ge false rfl ?_;refine h.get h.x2 ⟨⟨_,_,_,rfl,h.H⟩,?_⟩;refine r_app h.H (by rw[zA];exact lw h1 rfl) ?_;have g:=h.pH (H++[(x:Int)]);have F:FrH k S _:=FrH.refl.pH (n:=a2) (o:=.list (iL (H++[(x:Int)])));rw[iL,zV]at g F;change Hp (S.put (.core k .hHeap) a2 (.list (iL H++[.int x]))) _ _ _ _ _ _ _ _ _ at g;change FrH k S (S.put (.core k .hHeap) a2 (.list (iL H++[.int x])))at F;generalize S.put _ _ _=S1 at g F⊢;refine g.get g.x2 ?_;refine len_ints g.H (lw h3 rfl) ?_;refine g.get g.x3 ?_;rw[e1];refine set_int g.L (lw h2 rfl) rfl (idx_lt hx) ?_;have g2:=g.pL (L.set x H.length);have F2:=F.pL (n:=a3) (o:=.list (iL (L.set x H.length)));generalize S1.put _ _ _=S2 at g2 F2⊢;refine⟨g2.inst rfl,?_⟩;refine g2.get g2.x2 ?_;refine len_ints g2.H (lw h3 rfl) ?_;show Y.C (d-1) .h_rise [hv k n0,.int ((H++[(x:Int)]).length-1)] S2 _;rw[e1];refine s_rise Y (d:=d-1) (dd hd rfl) g2 (x:=x) h0 h3 (by rw[yD];exact h2) (by simp) (by rw[yD];exact idx_lt hx) hA (fun i hi=>by rw[zZ hi];exact hb i hi) fun S3 g3 F3=>?_;rw[List.set_set]at g3;exact q _ g3 (F2.trans F3)
theorem s_hgrow(hd:4<=d)(h:Hp S k n0 a1 a2 a3 hat A H L)(h0:A.length=x)(h1:H.length<=800)(h2:L.length=x)(hx:1<=x)(hx8:x<=800)(hA:∀i,i<x->A[i]?=some 0)(hb:∀i,i<H.length->∃y:Nat,H[i]?=some (y:Int)/\y<x)(q:∀S',Hp S' k n0 a1 a2 a3 hat (A++[0]) (H++[(x:Int)]) (L++[(H.length:Int)])->FrH k S S'->Q .none S'):Y.C d .h_grow [hv k n0,.int x] S Q:=by
  refine Y.run 0 (zE (nb rfl) hd) (by decide) rfl ⟨2,?_⟩;refine whO_step fun T tf tt=>?_;refine⟨h.inst rfl,?_⟩;refine s_many Y (d:=d-1) (dd hd rfl) h (h0▸lw hx8 rfl) ?_;refine r_lt true (by simp;exact lB 0x7261000465402103412540200 tT h0) (tt _ fun K kn _ _ _=>?_);refine h.get h.x1 ⟨⟨_,_,_,rfl,h.A⟩,?_⟩;refine r_app h.A (by rw[zA,h0];exact lw hx8 rfl) ?_;have g:=h.pA (A++[0]);have F:FrH k S _:=FrH.refl.pA (n:=a1) (o:=.list (iL (A++[0])));rw[iL,zV]at g F;change Hp (S.put (.core k .hAct) a1 (.list (iL A++[.int 0]))) _ _ _ _ _ _ _ _ _ at g;change FrH k S (S.put (.core k .hAct) a1 (.list (iL A++[.int 0])))at F;generalize S.put _ _ _=S1 at g F⊢;refine g.get g.x3 ⟨⟨_,_,_,rfl,g.L⟩,?_⟩;refine r_app g.L (by rw[zA,h2];exact lw hx8 rfl) ?_;have g2:=g.pL (L++[-1]);have F2:=F.pL (n:=a3) (o:=.list (iL (L++[-1])));rw[iL,zV]at g2 F2;change Hp (S1.put (.core k .hPlace) a3 (.list (iL L++[.int (-1)]))) _ _ _ _ _ _ _ _ _ at g2;change FrH k S (S1.put (.core k .hPlace) a3 (.list (iL L++[.int (-1)])))at F2;show wpSts (Y.E (d-1)) (.cons _ _) [some (hv k n0),some (.int x)] (S1.put (.core k .hPlace) a3 (.list (iL L++[.int (-1)]))) K;generalize S1.put _ _ _=S2 at g2 F2⊢;have hl1:(A++[(0:Int)]).length=x+1:=by rw[zJ,h0];rfl
  have hl2:(L++[(-1:Int)]).length=x+1:=by rw[zJ,h2];rfl
  have hx9:x+1<=900:=zE (Nat.succ_le_succ hx8) (nb rfl);have hA2:∀i,i<x+1->(A++[(0:Int)])[i]?=some 0:=fun i hi=>by
    by_cases c:i<x;.rw[zZ (h0▸c)];exact hA i c
    .rw[List.getElem?_append_right (by exact lC 0x7061020262000061000 tT h0 (Nat.le_of_not_lt c)),h0,show i-x=0 by exact lC 0x78180251004200081801504122010260200 tT hi (yC (lB 0x7061000061000 tT (Nat.le_of_not_lt c)))];rfl
  refine⟨g2.inst rfl,⟨g2.inst rfl,?_⟩⟩;refine s_many Y (d:=d-1) (dd hd rfl) g2 (hl1▸hx9) ?_;rw[hl1];show Y.C (d-1) .h_push [hv k n0,.int (((x+1:Nat):Int)-1)] S2 _;rw[show(((x+1:Nat):Int)-1)=(x:Int)by exact lA 0x75654020034125402041200 tT];refine s_push1 Y (d:=d-1) (dd hd rfl) g2 (hl1▸hx9) h1 (hl2▸hx9) (by rw[List.getElem?_append_right (Nat.le_of_eq h2),h2,Nat.sub_self];rfl) (hA2 x (xA x)) (fun i hi=>?_) fun S3 g3 F3=>?_
  .refine xea (hb i hi) fun y hy hlt=>?_;exact⟨y,hy,hA2 y (Nat.lt_succ_of_lt hlt),Nat.lt_asymm hlt⟩
  . have e3:(L++[(-1:Int)]).set x (H.length:Int)=L++[(H.length:Int)]:=by
      rw[List.set_append_right _ _ (Nat.le_of_eq h2),h2,Nat.sub_self];rfl
    rw[e3]at g3;refine kn _ _ (whO_step fun T tf tt=>?_);refine⟨g3.inst rfl,?_⟩;refine s_many Y (d:=d-1) (dd hd rfl) g3 (hl1▸hx9) ?_;refine r_lt false (by rw[hl1];simp) (tf _ ?_);exact q _ g3 (F2.trans F3)
variable{A:AF}{x:Int}
noncomputable def iniP(N:Nat):P:={asg:=List.replicate (N+1) 0,rea:=List.replicate (N+1) (-1),tr:=[],st:=[],ws:=List.replicate (2*N+2) [],hd:=0,cl:=[],sp:=[],us:=List.replicate (N+1) none,rt:=0,ps:=[],sn:=N+1,hA:=List.replicate (N+1) 0,hH:=(List.range N).map fun i:Nat=>((i+1:Nat):Int),hP:=(-1)::(List.range N).map fun i:Nat=>(i:Int)}
noncomputable def iniJ(N:Nat):J:={lev:=List.replicate (N+1) 0,spo:=List.replicate (N+1) 0,pha:=List.replicate (N+1) (-1)}
theorem m_inst(h:HasM S k m v)(hv:v own=n0)(hc:m own=some (.inst c at_))(hm:methOf c f=true)(hf:f.at=none):isInst (.loc (.core k own) n0) f S:=by
 subst hv;exact isInst_of (h _ _ hc) hm fun e=>by subst e;cases hf
theorem m_new{x z:CT}{rest:Sts}{Q:SQ}(h:HasM S k m v)(hv:v own=n0)(hc:m own=some (.inst c at_))(ok:okAt c a=true)(hv1:v x=n1)(ha:at_ a=some (.loc (.core k x) n1))(hx:m x=some (.list ys))(hz:z≠x)(hl:ys.length<=900)(q:∀S' n,HasM S' k (upd (upd m z (.list [])) x (.list (ys++[.loc (.core k z) n]))) (updV v z n)->Fr D0 k 0 S S'->wpSts E rest (some (.loc (.core k own) n0)::μ) S' Q):wpSts E (.cons (.ex (.app (.at (.lc 0) a) (.lst .nil))) rest) (some (.loc (.core k own) n0)::μ) S Q:=by
 subst hv hv1;refine s_ex (x_app (x_at (lc_rule rfl ?_)));have hh:=h _ _ hx;refine .mk rfl (h _ _ hc) ok ha ⟨⟨_,_,_,rfl,hh⟩,?_⟩;refine r_newL (.core k z) (yA _) ?_;have H:=h.alloc z (.list []);have F:Fr D0 k 0 S _:=Fr.refl.alloc (x:=z) id (.list []);have e:updV v z S.n x=v x:=zN (Ne.symm hz);refine r_app (e▸H x _ ((zN (Ne.symm hz)).trans hx)) hl ?_;have H2:=H.put x (.list (ys++[.loc (.core k z) S.n]));rw[e]at H2;exact q _ _ H2 (F.put id _ _)
theorem m_app'{x:CT}{rest:Sts}{Q:SQ}(h:HasM S k m v)(hv:v own=n0)(hc:m own=some (.inst c at_))(ok:okAt c a=true)(hv1:v x=n1)(ha:at_ a=some (.loc (.core k x) n1))(hx:m x=some (.list ys))(he:∀K:VQ,K y S->wpX E e (some (.loc (.core k own) n0)::μ) S K)(hl:ys.length<=900)(q:∀S',HasM S' k (upd m x (.list (ys++[y]))) v->Fr D0 k 0 S S'->wpSts E rest (some (.loc (.core k own) n0)::μ) S' Q):wpSts E (.cons (.ex (.app (.at (.lc 0) a) e)) rest) (some (.loc (.core k own) n0)::μ) S Q:=by
 subst hv1;exact m_app h hv hc ok ha hx he hl q
variable{c v:Nat}{a:Val}
theorem rep_ints(n:Nat)(a:Int):iL (List.replicate n a)++[.int a]=iL (List.replicate (n+1) a):=by
 rw[List.replicate_succ',iL,iL,zV];rfl
theorem FrH.fr(a:FrH k S S'):Fr D0 k 0 S S':=fun t ht=>a t (by rintro rfl;exact ht.elim (fun z=>z rfl) id) (by rintro rfl;exact ht.elim (fun z=>z rfl) id) (by rintro rfl;exact ht.elim (fun z=>z rfl) id)
theorem s_newvar(hd:6<=d)(hN:N<=100)(h:HasG S k g (iniP N) (iniJ N))(q:∀S' g',g'.v .core=g.v .core->HasG S' k g' (iniP (N+1)) (iniJ (N+1))->Fr D0 k 0 S S'->Q (.int (N+1:Nat)) S'):Y.C d .s_newvar [lo k g .core] S Q:=by
 have r9:∀{α:Type}(a:α),(List.replicate (N+1) a).length<=900:=fun a=>by rw[yZ];exact lA 0x70643620006438332041200 tT hN
 have r9i:∀a:Int,(iL (List.replicate (N+1) a)).length<=900:=fun a=>ml _ (r9 a);have h0:HasM S k (objOf k g (iniP N) (iniJ N)) g.v:=fun x o e=>h x o id e;refine Y.run 0 (zE (nb rfl) hd) (by decide) rfl ?_;refine m_app' (own:=.core) (x:=.seen) (a:=.seen) (y:=.bool false) h0 rfl rfl rfl rfl rfl rfl (fun K q=>q) (r9 _) fun S1 h1 F1=>?_;refine m_app' (own:=.core) (x:=.usteps) (a:=.unit_steps) (y:=.none) h1 rfl rfl rfl rfl rfl rfl (fun K q=>q) (by rw[zA];exact r9 _) fun S2 h2 F2=>?_;refine⟨m_inst (own:=.core) h2 rfl rfl rfl rfl,?_⟩;refine Y.run 1 (yH (Nat.lt_of_succ_le (zE (nb rfl) hd))) (by decide) rfl ?_;have ga:∀{Q:VQ}{a:At}{x:Val},attrs k g (iniP N) a=some x->okAt .search a=true->Q x S2->attrGet (lo k g .core) a S2 Q:=fun{Q a x}e ok q=>.mk rfl (h2 .core _ rfl) ok e q;refine ga (a:=.assigns) rfl rfl ?_;refine len_ints (l:=List.replicate (N+1) 0) (h2 .assigns _ rfl) (by rw[yZ];exact lA 0x7064362000673e332041200 tT hN) ?_;rw[yZ];refine⟨nb rfl,?_⟩;show wpSts (Y.E (d-1-1)) (.cons _ _) [some (lo k g .core),some (.int (N+1:Nat))] S2 _;refine m_app' (own:=.core) (x:=.assigns) (a:=.assigns) (y:=.int 0) h2 rfl rfl rfl rfl rfl rfl (fun K q=>r_gl glb1 q) (r9i _) fun S3 h3 F3=>?_;refine m_app' (own:=.core) (x:=.levels) (a:=.levels) (y:=.int 0) h3 rfl rfl rfl rfl rfl rfl (fun K q=>q) (r9i _) fun S4 h4 F4=>?_;refine m_app' (own:=.core) (x:=.reasons) (a:=.reasons) (y:=.int (-1)) h4 rfl rfl rfl rfl rfl rfl (fun K q=>r_gl glb4 q) (r9i _) fun S5 h5 F5=>?_;refine m_app' (own:=.core) (x:=.spots) (a:=.spots) (y:=.int 0) h5 rfl rfl rfl rfl rfl rfl (fun K q=>q) (r9i _) fun S6 h6 F6=>?_;refine m_app' (own:=.core) (x:=.phases) (a:=.phases) (y:=.int (-1)) h6 rfl rfl rfl rfl rfl rfl (fun K q=>r_gl glb3 q) (r9i _) fun S7 h7 F7=>?_;have wl:((List.range (iniP N).ws.length).map fun i=>lo k g (wt g i)).length=2*N+2:=by rw[zA,yQ];exact yZ
 refine m_new (own:=.core) (x:=.watches) (a:=.watches) (z:=wt g (2*N+2)) h7 rfl rfl rfl rfl rfl rfl (nD rfl) (by rw[wl];exact lA 0x7828205436200064383320422142200 tT hN) fun S8 n8 h8 F8=>?_;refine m_new (own:=.core) (x:=.watches) (a:=.watches) (z:=wt g (2*N+3)) h8 rfl rfl rfl rfl rfl rfl (nD rfl) (by rw[zJ,wl,List.length_singleton];exact lA 0x78282054362000643833204120422142200 tT hN) fun S9 n9 h9 F9=>?_;have hp:Hp S9 k (g.v .heapO) (g.v .hAct) (g.v .hHeap) (g.v .hPlace) (hattrs k g) (iniP N).hA (iniP N).hH (iniP N).hP:=⟨h9 .heapO _ rfl,rfl,rfl,rfl,h9 .hAct _ rfl,h9 .hHeap _ rfl,h9 .hPlace _ rfl⟩;have F:Fr D0 k 0 S S9:=F1.trans (F2.trans (F3.trans (F4.trans (F5.trans (F6.trans (F7.trans (F8.trans F9)))))));have key:∀(K:VQ),(∀S',Hp S' k (g.v .heapO) (g.v .hAct) (g.v .hHeap) (g.v .hPlace) (hattrs k g) ((iniP N).hA++[0]) ((iniP N).hH++[((N+1:Nat):Int)]) ((iniP N).hP++[((iniP N).hH.length:Int)])->FrH k S9 S'->K .none S')->Y.C (d-1-1) .h_grow [hv k (g.v .heapO),.int (N+1:Nat)] S9 K:=fun K hK=>s_hgrow Y (x:=N+1) (by exact lC 0x706041220100604120020061062060042 tT hd (le_sub_ad _ _) (le_sub_ad _ _)) hp yZ (by show((List.range N).map _).length<=800;rw[zA,yQ];exact lA 0x7064362000603233200 tT hN) (by show(_::(List.range N).map _).length=_;rw[List.length_cons,zA,yQ]) (Nat.succ_pos _) (by exact lA 0x70643620006032332041200 tT hN) (fun i hi=>by show(List.replicate (N+1) (0:Int))[i]?=_;rw[List.getElem?_replicate,zU hi]) (fun i hi=>by
    have hi:i<((List.range N).map fun i:Nat=>((i+1:Nat):Int)).length:=hi;rw[zA,yQ]at hi;exact⟨i+1,by show((List.range N).map _)[i]?=_;rw[zX,List.getElem?_range hi];rfl,Nat.succ_lt_succ hi⟩) hK;have ga9:∀{Q:VQ},Q (hv k (g.v .heapO)) S9->attrGet (lo k g .core) .heap S9 Q:=fun{Q}q=>by
  have e:S9.H (.core k .core)=some (g.v .core,.inst .search (attrs k g (iniP N))):=h9 .core _ rfl;exact .mk rfl e rfl rfl q
 refine ga9 ⟨hp.inst rfl,?_⟩;refine key _ fun S10 hp' F10=>?_;refine q S10 ⟨updV (updV g.v (wt g (2*N+2)) n8) (wt g (2*N+3)) n9,g.b⟩ rfl ?_ (F.trans F10.fr);have old:∀x o,x≠.hAct->x≠.hHeap->x≠.hPlace->_->S10.H (.core k x)=_:=fun x o n1 n2 n3 e=>(F10 (.core k x) (by intro q;injection q with _ q;exact n1 q) (by intro q;injection q with _ q;exact n2 q) (by intro q;injection q with _ q;exact n3 q)).trans (h9 x o e);intro x o _ e;clear a;cases x with
 |hAct=>
  have :=hp'.A;show _=some (g.v .hAct,o);rw[this,<-zS e];show _=some (_,HObj.list (iL (List.replicate (N+1+1) 0)));rw[List.replicate_succ' (n:=N+1)];rfl|hHeap=>
  have :=hp'.H;show _=some (g.v .hHeap,o);rw[this,<-zS e];show _=some (_,HObj.list (iL ((List.range (N+1)).map _)));rw[List.range_succ,zV];rfl|hPlace=>
  have :=hp'.L;show _=some (g.v .hPlace,o);rw[this,<-zS e];show some (_,HObj.list (iL (_++[((((List.range N).map _).length:Nat):Int)])))=some (_,HObj.list (iL (_::(List.range (N+1)).map _)));rw[List.range_succ,zV,zA,yQ];rfl|assigns=>exact old .assigns o (nD rfl) (nD rfl) (nD rfl) ((zG (fun l=>some (HObj.list l)) (rep_ints (N+1) 0)).trans e)|levels=>exact old .levels o (nD rfl) (nD rfl) (nD rfl) ((zG (fun l=>some (HObj.list l)) (rep_ints (N+1) 0)).trans e)|reasons=>exact old .reasons o (nD rfl) (nD rfl) (nD rfl) ((zG (fun l=>some (HObj.list l)) (rep_ints (N+1) (-1))).trans e)|spots=>exact old .spots o (nD rfl) (nD rfl) (nD rfl) ((zG (fun l=>some (HObj.list l)) (rep_ints (N+1) 0)).trans e)|phases=>exact old .phases o (nD rfl) (nD rfl) (nD rfl) ((zG (fun l=>some (HObj.list l)) (rep_ints (N+1) (-1))).trans e)|seen=>exact old .seen o (nD rfl) (nD rfl) (nD rfl) ((zG (fun l=>some (HObj.list l)) List.replicate_succ'.symm).trans e)|usteps=>exact old .usteps o (nD rfl) (nD rfl) (nD rfl) ((zG (fun l=>some (HObj.list l)) (by rw[show(iniP N).us=List.replicate (N+1) none from rfl,show(iniP (N+1)).us=List.replicate (N+1+1) none from rfl,List.replicate_succ' (n:=N+1),zV];rfl)).trans e)|watches=>
    have e:some (HObj.list ((List.range (List.replicate (2*(N+1)+2) ([]:List Int)).length).map fun i=>Val.loc (.core k (wt g i)) (updV (updV g.v (wt g (2*N+2)) n8) (wt g (2*N+3)) n9 (wt g i))))=some o:=e;refine old .watches o (nD rfl) (nD rfl) (nD rfl) (Eq.trans ?_ e);show some (HObj.list (((List.range (List.replicate (2*N+2) ([]:List Int)).length).map fun i=>lo k g (wt g i))++[_]++[_]))=_;have wne:∀{a b:Nat},a≠b->wt g a≠wt g b:=fun{a b}n q=>by
      unfold wt at q;injection q with q;exact n ((wt_two a (g.b a)).1.symm.trans ((zG (./2) q).trans (wt_two b (g.b b)).1))
    rw[yZ,yZ,show 2*(N+1)+2=2*N+2+1+1 by exact lA 0x72604120412042214220004221422041200 tT,List.range_succ (n:=2*N+2+1),List.range_succ (n:=2*N+2),zV,zV];congr 4
    .refine List.map_congr_left fun i hi=>?_;have :=List.mem_range.mp hi;unfold updV;rw[zN (wne (by exact fun e=>lB 0x77f7f25043214221000160422142210008080650202 tT this e)),zN (wne (by exact fun e=>lB 0x77f7f25042214221000160422142210008080650202 tT this e))]
    .show[Val.loc (.core k (wt g (2*N+2))) n8]=[Val.loc (.core k (wt g (2*N+2))) (if wt g (2*N+2)=wt g (2*N+3)then n9 else if wt g (2*N+2)=wt g (2*N+2)then n8 else g.v (wt g (2*N+2)))];rw[zN (wne (by exact fun e=>lA 0x77f7f25043214220004221422008080650202 tT e)),zU rfl]
    .show Val.loc (.core k (wt g (2*N+3))) n9=Val.loc (.core k (wt g (2*N+3))) (if wt g (2*N+3)=wt g (2*N+3)then n9 else if wt g (2*N+3)=wt g (2*N+2)then n8 else g.v (wt g (2*N+3)));rw[zU rfl]|watch w=>
    refine old (.watch w) o (nD rfl) (nD rfl) (nD rfl) ?_;have e:(if w%2=(g.b (w/2)).toNat then((List.replicate (2*(N+1)+2) ([]:List Int))[w/2]?).map (fun l=>HObj.list (iL l))else none)=some o:=e;split at e
    . rename_i hw;have hwe:wt g (w/2)=.watch w:=by unfold wt;exact zG CT.watch ((zG (2*(w/2)+.) hw.symm).trans (Nat.div_add_mod w 2))
      rw[List.getElem?_replicate]at e;split at e
      . rename_i hlt;show upd (upd (upd (upd _ (wt g (2*N+2)) _) .watches _) (wt g (2*N+3)) _) .watches _ (.watch w)=some o;unfold upd;rw[zN (show CT.watch w≠CT.watches from(nD rfl))];by_cases c1:CT.watch w=wt g (2*N+3);.rw[zU c1];exact e
        . rw[zN c1,zN (show CT.watch w≠CT.watches from(nD rfl))];by_cases c2:CT.watch w=wt g (2*N+2);.rw[zU c2];exact e
          . rw[zN c2];show(if w%2=(g.b (w/2)).toNat then((List.replicate (2*N+2) ([]:List Int))[w/2]?).map (fun l=>HObj.list (iL l))else none)=some o;rw[zU hw,List.getElem?_replicate,zU];.exact e
            .have h1:w/2≠2*N+3:=fun z=>c1 (by rw[<-hwe,z]);have h2:w/2≠2*N+2:=fun z=>c2 (by rw[<-hwe,z]);exact Nat.lt_of_le_of_ne (Nat.le_of_lt_succ (Nat.lt_of_le_of_ne (Nat.le_of_lt_succ hlt) h1)) h2
      .cases e
    .cases e|clause i=>exact old (.clause i) o (nD rfl) (nD rfl) (nD rfl) e|_=>exact old _ o (nD rfl) (nD rfl) (nD rfl) e
theorem i_watch{rest:Sts}(h:Ini S0 S k 9 .core .search M A)(q:∀S',Ini S0 S' k 12 .core .search (vM (vM (vM M (.watch 0) fun _=>[]) (.watch 2) fun _=>[]) .watches fun l=>[l (.watch 0),l (.watch 2)]) (vA A .watches fun l=>l .watches)->wpSts E rest (some (lI k S0.n .core)::μ) S' K):wpSts E (.cons (.asg (.at (.lc 0) .watches) (.lst (.cons (.lst .nil) (.cons (.lst .nil) .nil)))) rest) (some (lI k S0.n .core)::μ) S K:=by
 refine s_asg (x_lst (xs_cons (x_lst (r_newL (.core k (.watch 0)) (yA _) ?_))));have h1:=h.al (.watch 0) rfl rfl fun _=>[];rw[show S.n=S0.n+9 from h.1];refine xs_cons (x_lst (r_newL (.core k (.watch 2)) (yA _) ?_));have h2:=h1.al (.watch 2) rfl rfl fun _=>[];rw[show(S.alloc _ _).n=S0.n+10 from h1.1];refine r_newL (.core k .watches) (nb rfl) (t_at ?_);have h3:=h2.al .watches rfl rfl fun l=>[l (.watch 0),l (.watch 2)];rw[show((S.alloc _ _).alloc _ _).n=S0.n+11 from h2.1];exact lc_rule rfl (set_attr (h3.2.1 .core (.inst .search (A (lI k S0.n))) rfl) (q _ ⟨h3.1,has_own h3.2.1 _,h3.2.2.put id _ _⟩))
theorem Ini.new{M':MF}(x:CT)(c':Cls)(hn:ix x=i)(h:S.n=S0.n+i)(hm:HasM S k (M' (lI k S0.n)) fun x=>S0.n+ix x)(F:Fr D0 k 0 S0 S):Ini S0 (S.alloc (.core k x) (.inst c' fun _=>none)) k (i+1) x c' M' nA:=by
 refine⟨zG (.+1) h,fun y o e=>?_,F.alloc id _⟩;refine(hm.alloc x (.inst c' fun _=>none) y o e).trans (zG (fun n=>some (n,o)) ?_);rw[h,<-hn];unfold updV;split;.rename_i e;rw[e]
 .rfl
theorem i_heap(hd:1<=d){rest:Sts}(h:Ini S0 S k 12 .core .search M A)(q:∀S',Ini S0 S' k 16 .core .search (oM (vM (vM (vM M .hAct fun _=>[.int 0]) .hHeap fun _=>[]) .hPlace fun _=>[.int (-1)]) .heapO .heap (vA (vA (vA (vA (vA nA .limit fun _=>.int 1000000000000) .step fun _=>.int 1024) .activity fun l=>l .hAct) .heap fun l=>l .hHeap) .place fun l=>l .hPlace)) (vA A .heap fun l=>l .heapO)->wpSts (Y.E d) rest (some (lI k S0.n .core)::μ) S' K):wpSts (Y.E d) (.cons (.asg (.at (.lc 0) .heap) (.new .heap .nil)) rest) (some (lI k S0.n .core)::μ) S K:=by
 refine⟨.core k .heapO,?_⟩;have h1:=Ini.new .heapO .heap rfl h.1 h.2.1 h.2.2;rw[show S.n=S0.n+12 from h.1];refine i_h_init Y hd h1 fun S2 h2=>⟨rfl,t_at ?_⟩;have hm:=h2.2.1;unfold oM vM at hm;rw[upd_comm _ (x:=.core) (y:=.hAct) (nD rfl),upd_comm _ (x:=.core) (y:=.hHeap) (nD rfl),upd_comm _ (x:=.core) (y:=.hPlace) (nD rfl),upd_comm _ (x:=.core) (y:=.heapO) (nD rfl)]at hm;exact lc_rule rfl (set_attr (hm .core _ (zU rfl)) (q _ ⟨h2.1,has_own (S0:=S0) (A:=A) (M:=oM (vM (vM (vM M .hAct fun _=>[.int 0]) .hHeap fun _=>[]) .hPlace fun _=>[.int (-1)]) .heapO .heap (vA (vA (vA (vA (vA nA .limit fun _=>.int 1000000000000) .step fun _=>.int 1024) .activity fun l=>l .hAct) .heap fun l=>l .hHeap) .place fun l=>l .hPlace)) hm _,h2.2.2.put id _ _⟩))
variable{K:VQ}
theorem w4{P:Nat->Prop}(h0:P 0)(h1:P 1)(h2:P 2)(h3:P 3)(h4:∀w,P (w+4)):∀w,P w|0=>h0|1=>h1|2=>h2|3=>h3|w+4=>h4 w
theorem s_mk(hd:3<=d)(q:∀S' g,HasG S' k g (iniP 0) (iniJ 0)->Fr D0 k 0 S S'->K (lo k g .core) S'):wpX (Y.E d) (.new .search (.cons (.new .proof .nil) (.cons .none .nil))) μ S K:=by
 refine⟨.core k .proof,?_⟩;have h0:=Ini.new (S0:=S) (k:=k) (M':=fun _ _=>none) .proof .proof rfl rfl (fun _ _ e=>nomatch e) Fr.refl;refine i_p_init Y (d:=d) (zE (by decide) hd) h0 fun S2 h2=>⟨rfl,.core k .core,?_⟩;have h3:=Ini.new .core .search rfl h2.1 h2.2.1 h2.2.2;rw[h2.1];obtain⟨d,rfl⟩:∃e,d=e+2:=⟨d-2,(yC (zE (by decide) hd)).symm⟩;refine Y.init 0 (d:=d+1) (h3.2.1 .core (.inst .search fun _=>none) rfl) ?_;refine Y.run 0 (d:=d+1) (Nat.le_add_left ..) (by decide) rfl ?_;refine i_val .hook (fun _=>.none) h3 (fun K q=>q) fun S h=>?_;refine i_lst .assigns .assigns (fun _=>[.int 0]) h (fun K q=>r_gl glb1 q) rfl rfl (nb rfl) fun S h=>?_;refine i_lst .levels .levels (fun _=>[.int 0]) h (fun K q=>q) rfl rfl (nb rfl) fun S h=>?_;refine i_lst .reasons .reasons (fun _=>[.int (-1)]) h (fun K q=>r_gl glb4 q) rfl rfl (nb rfl) fun S h=>?_;refine i_lst .spots .spots (fun _=>[.int 0]) h (fun K q=>q) rfl rfl (nb rfl) fun S h=>?_;refine i_lst .phases .phases (fun _=>[.int (-1)]) h (fun K q=>r_gl glb3 q) rfl rfl (nb rfl) fun S h=>?_;refine i_watch h fun S h=>?_;refine i_heap Y (d:=d) (Nat.le_of_add_le_add_right (b:=2) hd) h fun S h=>?_;refine i_lst .trail .trail (fun _=>[]) h (fun K q=>q) rfl rfl (yA _) fun S h=>?_;refine i_lst .starts .starts (fun _=>[]) h (fun K q=>q) rfl rfl (yA _) fun S h=>?_;refine i_val .head (fun _=>.int 0) h (fun K q=>q) fun S h=>?_;refine i_val .told (fun _=>.int 0) h (fun K q=>q) fun S h=>?_;refine i_lst .clauses .clauses (fun _=>[]) h (fun K q=>q) rfl rfl (yA _) fun S h=>?_;refine i_lst .steps .steps (fun _=>[]) h (fun K q=>q) rfl rfl (yA _) fun S h=>?_;refine i_lst .droppable .drop (fun _=>[]) h (fun K q=>q) rfl rfl (yA _) fun S h=>?_;refine i_lst .activities .acts (fun _=>[]) h (fun K q=>q) rfl rfl (yA _) fun S h=>?_;refine i_val .learnt_count (fun _=>.int 0) h (fun K q=>q) fun S h=>?_;refine m_end ?_;refine i_val .proof (fun l=>l .proof) h (fun K q=>q) fun S h=>?_;refine i_lst .seen .seen (fun _=>[.bool false]) h (fun K q=>q) rfl rfl (nb rfl) fun S h=>?_;refine i_lst .unit_steps .usteps (fun _=>[.none]) h (fun K q=>q) rfl rfl (nb rfl) fun S h=>?_;refine i_val .rooted (fun _=>.int 0) h (fun K q=>q) fun S h=>?_;refine i_val .is_ok (fun _=>.bool true) h (fun K q=>q) fun S h=>?_;refine i_val .empty_step (fun _=>.none) h (fun K q=>q) fun S h=>?_;refine i_val .failed (fun _=>.tup []) h (fun K q=>⟨yA _,q⟩) fun S h=>?_;refine i_val .failed_at (fun _=>.none) h (fun K q=>q) fun S h=>?_;refine i_val .conflict_limit (fun _=>.int 0) h (fun K q=>q) fun S h=>?_;refine i_val .conflicts (fun _=>.int 0) h (fun K q=>q) fun S h=>?_;refine i_val .decisions (fun _=>.int 0) h (fun K q=>q) fun S h=>?_;refine m_end ⟨rfl,?_⟩;refine q S ⟨_,fun _=>false⟩ (fun x o hn e=>h.2.1 x o ?_) h.2.2
 cases x with|core=>exact(zG (fun f=>some (HObj.inst .search f)) (funext fun b=>by cases b<;>rfl)).trans e|heapO=>exact(zG (fun f=>some (HObj.inst .heap f)) (funext fun b=>by cases b<;>rfl)).trans e|proof=>exact(zG (fun f=>some (HObj.inst .proof f)) (funext fun b=>by cases b<;>rfl)).trans e|clause i=>cases e|watch w=>
  have e2:(if w%2=0 then(([[],[]]:List (List Int))[w/2]?).map (fun l=>HObj.list (iL l))else none)=some o:=e;clear hn e;revert e2;revert w;refine w4 (fun e=>e) (fun e=>nomatch e) (fun e=>e) (fun e=>nomatch e) fun w e=>?_;have :([[],[]]:List (List Int))[(w+4)/2]?=none:=yJ (by show 2<=(w+4)/2;omega);rw[this]at e;split at e<;>cases e|_=>exact e
theorem s_lcore(hd:8<=d)(hN:N<=90)(q:∀S' g,HasG S' k g (iniP N) (iniJ N)->Fr D0 k 0 S S'->Q (lo k g .core) S'):Y.C d .lcore [.int N] S Q:=by
 refine Y.run 2 (zE (nb rfl) hd) (by decide) rfl ?_;refine s_asg ?_;refine s_mk Y (k:=k) (dd hd rfl) fun S1 g1 h1 F1=>?_;refine⟨nb rfl,?_⟩;refine⟨by decide,by exact lB 0x75654021054020006a352101683e33200 tT hN (zY (lA 0x73654020002 tT)),.inl rfl,?_⟩;rw[rng_up (a:=0) (m:=0) rfl rfl,Nat.sub_zero];have loop:∀(n i:Nat)(x:Option Val)(S2:AS)(g2:Gh)(K:SQ),i+n=N->g2.v .core=g1.v .core->HasG S2 k g2 (iniP i) (iniJ i)->Fr D0 k 0 S S2->(∀x S' g',g'.v .core=g1.v .core->HasG S' k g' (iniP N) (iniJ N)->Fr D0 k 0 S S'->K .next [some (.int N),some (lo k g1 .core),x] S')->forO (fun x μ S K=>bindNames [2] x μ fun μ=>wpSts (Y.E (d-1)) (.cons (.ex (.meth (.lc 1) .s_newvar .nil)) .nil) μ S K) (fun _=>True) ((List.range' i n).map fun i:Nat=>.int (i:Int)) [some (.int N),some (lo k g1 .core),x] S2 K:=by
  intro n;induction n with|zero=>
   intro i x S2 g2 K hi hg h F q;rw[Nat.add_zero]at hi;clear hN;subst hi;exact forO_nil trivial (q _ _ _ hg h F)|succ n ih=>
   intro i x S2 g2 K hi hg h F q;rw[List.range'_succ,List.map_cons];refine forO_cons trivial fun K' kn _ _ _=>?_;refine⟨nb rfl,?_⟩;have e:lo k g1 .core=lo k g2 .core:=by rw[lo,lo,hg]
   show wpSts _ _ [some (.int N),some (lo k g1 .core),some (.int i)] S2 _;rw[e];refine⟨h.inst id rfl,?_⟩;refine s_newvar Y (d:=d-1) (dd hd rfl) (N:=i) (by exact lC 0x72610040412200006a3521006436200 tT hN hi) h fun S3 g3 hg3 h3 F3=>?_;refine kn _ _ ?_;rw[<-e];exact ih (i+1) _ S3 g3 K (by exact lC 0x7817f2520040412100026200410041200 tT hi) (hg3.trans hg) h3 (F.trans F3) q
 refine loop N 0 none S1 g1 _ (Nat.zero_add N) rfl h1 F1 fun x S2 g2 hg h2 F2=>?_;show Q (lo k g1 .core) S2;rw[show lo k g1 .core=lo k g2 .core by rw[lo,lo,hg]];exact q S2 g2 h2 F2
variable{m:Nat}
theorem get_str{kvs:List (Str×Val)}{s:Str}{x:Val}(h:S.H t=some (v,.dictS kvs))(hk:kvs.lookup s=some x)(q:Q x S):itemGet (.loc t v) (.str s) S Q:=by
 exact .dictS rfl rfl h hk q
structure Feed(S:AS)(n c:Nat)(cells:List Int)(b:Nat):Prop where
 at_:∃k:Nat,k<=b/\S.H (.law 0)=some (n,.dictS [("cells",.loc (.law 1) c),("at",.int k)])
 ce:S.H (.law 1)=some (c,.list (iL cells))
 len:cells.length<=48
def FrL(S S':AS):Prop:=∀t,t≠.law 0->S'.H t=S.H t
theorem Feed.up(f:Feed S n c cells b)(h:b<=b'):Feed S n c cells b':=let⟨k,a,e⟩:=f.at_;⟨⟨k,zE a h,e⟩,f.ce,f.len⟩
theorem lk1{b:Val}:List.lookup ("cells":Str) [(("cells":Str),a),("at",b)]=some a:=by simp[yK]
theorem lk2{b:Val}:List.lookup ("at":Str) [(("cells":Str),a),("at",b)]=some b:=by
 have :(("at":Str)=="cells")=false:=by decide
 simp[yK,this]
theorem ps1{b b':Val}:putS [(("cells":Str),a),(("at":Str),b)] "at" b'=[(("cells":Str),a),(("at":Str),b')]:=by
 have h1:decide ((("cells":Str))="at")=false:=by decide
 have h2:¬(("cells":Str)="at"):=by decide
 unfold putS;rw[zU (by simp)];simp[h2]
variable{a:Int}
theorem fm_nat(a:Int)(hw:1<=w):∃r:Nat,a.fmod w=r/\(r:Int)<w:=by
 have h1:=Int.fmod_nonneg_of_pos a (show 0<w by exact lZ 0x7360112460102 tT hw);have h2:=Int.fmod_lt_of_pos a (show 0<w by exact lZ 0x7360112460102 tT hw);obtain⟨r,hr⟩:=Int.eq_ofNat_of_zero_le h1;exact⟨r,hr,hr▸h2⟩
theorem s_draw(hd:1<=d)(f:Feed S n c cells b)(hb:b<=900)(hw:1<=w)(q:∀S'(r:Nat),(r:Int)<w->Feed S' n c cells (b+1)->FrL S S'->Q (.int r) S'):Y.C d .draw [.loc (.law 0) n,.int w] S Q:=by
 refine Y.run 1 hd (by decide) rfl ?_;refine xea f.at_ fun kk hk h0=>?_;refine get_str h0 lk2 ?_;refine⟨nb rfl,?_⟩;show wpSts (Y.E (d-1)) (.cons (.asg (.sub (.lc 0) (.str "at")) _) _) [some (.loc (.law 0) n),some (.int w),some (.int kk)] S (retQ Q);have key:∀S1,Feed S1 n c cells (b+1)->FrL S S1->wpSts (Y.E (d-1)) (match body_draw with|.cons _ (.cons _ r)=>r|r=>r) [some (.loc (.law 0) n),some (.int w),some (.int kk)] S1 (retQ Q):=fun S1 f1 F1=>by
  refine xea f1.at_ fun _ _ h1=>?_;have len:∀{Q:VQ},Q (.int cells.length) S1->lenOf (.loc (.law 1) c) S1 Q:=fun{Q}q=>len_ints f1.ce (zE f.len (nb rfl)) q;refine get_str h1 lk1 (len ?_);by_cases hlt:kk<cells.length
  .refine r_lt true (int_lt_dec hlt) ?_;refine get_str h1 lk1 ?_;refine get_int f1.ce (zE f.len (nb rfl)) rfl (getD_some (d:=0) hlt) ?_;refine⟨by exact fun e=>lZ 0x75602013601128080650202 tT hw e,?_⟩;show Q (.int ((cells.getD kk 0).fmod w)) S1;refine xea (fm_nat (cells.getD kk 0) hw) fun r hr hlt=>?_;rw[hr];exact q S1 r hlt f1 F1
  .refine r_lt false (by simp;exact lB 0x7061000061000 tT (Nat.le_of_not_lt hlt)) ?_;have small:∀a:Int,-(2^64)<a->a<2^64->Builtin.Int.intBits a<=64:=fun a h1 h2=>PySem.intBits_le_64 h1 h2;refine⟨.of_left (small 5 (by decide) (by decide)),.of_right (small _ (by lia) (by lia)),.of_left (small 11 (by decide) (by decide)),?_⟩;refine get_str h1 lk1 (len ⟨.of_left (small 3 (by decide) (by decide)),by decide,by exact fun e=>lZ 0x75602013601128080650202 tT hw e,?_⟩);show Q (.int ((((5*(kk:Int)*kk+11*kk)+3*cells.length+2).fmod 83).fmod w)) S1;refine xea (fm_nat (((5*(kk:Int)*kk+11*kk)+3*cells.length+2).fmod 83) hw) fun r hr hlt=>?_;rw[hr];exact q S1 r hlt f1 F1
 have F1:FrL S (S.put (.law 0) n (.dictS [(("cells":Str),.loc (.law 1) c),(("at":Str),.int (kk+1))])):=fun t ht=>zN ht;have f1:Feed (S.put (.law 0) n (.dictS [(("cells":Str),.loc (.law 1) c),(("at":Str),.int (kk+1))])) n c cells (b+1):=⟨⟨kk+1,Nat.succ_le_succ hk,put_eq⟩,(F1 (.law 1) (nD rfl)).trans f.ce,f.len⟩;have go:=key _ f1 F1;have hs:∀{K:AS->Prop},K (S.put (.law 0) n (.dictS [(("cells":Str),.loc (.law 1) c),(("at":Str),.int (kk+1))]))->itemSet (.loc (.law 0) n) (.str "at") (.int (kk+1)) S K:=fun{K}h=>by
  exact .dictS rfl rfl h0 (nb rfl) (by rw[ps1];exact h)
 exact hs go
variable{w:Nat->Nat}
theorem compO_B{chk:AS->Prop}(f:Val->List Val)(hc:chk S){Q:List Val->AS->Prop}:∀{items acc:List Val},(∀x∈items,∀acc K,(acc++f x).length<=1000->K (acc++f x) S->inner x acc S K)->(acc++items.flatMap f).length<=1000->Q (acc++items.flatMap f) S->compO inner chk items acc S Q:=by
 intro v;induction v with
 |nil=>
  intro acc _ hl q;rw[compO];simp only[List.flatMap_nil,yS]at hl q;exact⟨hc,hl,q⟩|cons x r ih=>
  intro acc hi hl q;rw[List.flatMap_cons,<-List.append_assoc]at hl q;have hl2:=hl;rw[zJ]at hl2;have hl3:=zE (Nat.le_add_right _ _) hl2;rw[compO];refine⟨hc,?_,hi x (zF ..) acc _ hl3 (ih (fun y hy=>hi y (zI _ hy)) hl q)⟩;rw[zJ]at hl3;exact zE (Nat.le_add_right _ _) hl3
noncomputable def lcl(l:List Int):List Int:=[-1,1,-2,2,-3,3,-4,4,-5,5,-6,6,-7,7].filter fun x=>decide (x∈l)
theorem s_lclause(hd:1<=d)(h:S.H t=some (v,.list (iL l)))(q:∀S',FrT 1 S S'->Q (.tup (iL (lcl l))) S'):Y.C d .lclause [.loc t v] S Q:=by
  refine Y.run 2 hd (by decide) rfl ?_;have two:∀a:Int,(iL [-a,a]).flatMap (fun v=>match v with|.int i=>if decide (i∈l)then[v]else[]|_=>[])=iL ([-a,a].filter fun x=>decide (x∈l)):=fun a=>flat_filter _ _;have e:(rngVals 1 8 1).flatMap (fun w=>match w with|.int a=>iL ([-a,a].filter fun x=>decide (x∈l))|_=>[])=iL (lcl l):=by
    have :rngVals 1 8 1=iL [1,2,3,4,5,6,7]:=rfl;rw[this];show iL _++(iL _++(iL _++(iL _++(iL _++(iL _++(iL _++[]))))))=_;unfold lcl iL;rw[yS];simp only[<-zV,<-List.filter_append];rfl
  have hlen:(lcl l).length<=14:=List.length_filter_le _ _;refine⟨⟨rfl,rfl,by decide⟩,by decide,by decide,.inl rfl,?_⟩;refine compO_B (fun w=>match w with|.int a=>iL ([-a,a].filter fun x=>decide (x∈l))|_=>[]) trivial (fun x hx acc K hK k=>?_) (by rw[e,List.nil_append,zA];exact lw hlen rfl) ?_
  . have :rngVals 1 8 1=iL [1,2,3,4,5,6,7]:=rfl;rw[this]at hx;refine xea (yE.mp hx) fun a ha e_2=>?_;subst e_2;refine⟨nb rfl,?_⟩;refine⟨nb rfl,?_⟩;refine⟨iL [-a,a],rfl,nb rfl,?_⟩;refine compO_B (chk:=fun S'=>S'.seqOf (.tup (iL [-a,a]))=some (iL [-a,a])) (fun v=>match v with|.int i=>if decide (i∈l)then[v]else[]|_=>[]) rfl (fun y hy acc K _ k=>?_) (by rw[two];exact hK) ?_
    .refine xea (yE.mp hy) fun b hb e_2=>?_;clear hy;subst e_2;refine⟨nb rfl,?_⟩;refine in_lints h ?_;rw[Bool.xor_false];cases hc:decide (b∈l)with|true=>simp only[hc,if_true]at k;exact k|false=>simp only[hc,Bool.false_eq_true,if_false,yS]at k;exact k
    .rw[two];exact k
  .rw[e,List.nil_append];refine r_newL (.tmp 0 0) (by rw[zA];exact lw hlen rfl) ?_;refine⟨_,seqOf_loc alloc_eq,by rw[zA];exact lw hlen rfl,?_⟩;exact q _ (FrT.refl.alloc (by decide) _)
theorem compO_ind{chk:AS->Prop}(I:List Val->List Val->AS->Prop)(hc:∀r acc S,I r acc S->chk S/\acc.length<=1000)(hs:∀x r acc S K,I (x::r) acc S->(∀acc' S',I r acc' S'->K acc' S')->inner x acc S K){Q:List Val->AS->Prop}:∀(items acc:List Val)(S:AS),I items acc S->(∀acc S,I [] acc S->Q acc S)->compO inner chk items acc S Q:=by
 intro v;induction v with|nil=>
  intro acc S h q;rw[compO];exact⟨(hc _ _ _ h).1,(hc _ _ _ h).2,q _ _ h⟩|cons x r ih=>
  intro acc S h q;rw[compO];exact⟨(hc _ _ _ h).1,(hc _ _ _ h).2,hs _ _ _ _ _ h fun acc' S' h'=>ih acc' S' h' q⟩
theorem forO_ind{chk:AS->Prop}(I:List Val->Mu->AS->Prop)(hc:∀r μ S,I r μ S->chk S)(hs:∀x r μ S K,I (x::r) μ S->(∀μ' S',I r μ' S'->K .next μ' S')->turn x μ S K){Q:SQ}:∀(items:List Val)(μ:Mu)(S:AS),I items μ S->(∀μ S,I [] μ S->Q .next μ S)->forO turn chk items μ S Q:=by
 intro v;induction v with|nil=>
  intro μ S h q;exact forO_nil (hc _ _ _ h) (q _ _ h)|cons x r ih=>
  intro μ S h q;exact forO_cons (hc _ _ _ h) fun K kn _ _ _=>hs _ _ _ _ _ h fun μ' S' h'=>kn _ _ (ih μ' S' h' q)
structure ClOk(tr:List Int)(c:List Int):Prop where
 sa:SA c
 len:c.length<=3
 z:∀x∈c,x≠0
 b:∀x∈c,x.natAbs<=tr.length+1
 t:∃x∈c,x∈tr
def TrOk(tr:List Int):Prop:=∀i l,tr[i]?=some l->l.natAbs=i+1
def KOk(tr:List Int)(cls:List (List Int))(i:Nat):Prop:=∀l,tr[i]?=some l->∃c∈cls,l∈c/\∀x∈c,x=l\/∃j,j<i/\tr[j]?=some (-x)
structure World(tr:List Int)(cls:List (List Int)):Prop where
 n1:3<=tr.length
 n2:tr.length<=5
 t:TrOk tr
 c:∀c∈cls,ClOk tr c
 k:∀i,i<tr.length->KOk tr cls i
 len:cls.length<=8
theorem lcl_mem(h1:1<=x.natAbs)(h2:x.natAbs<=7):x∈lcl l↔x∈l:=by
 unfold lcl;rw[yM,decide_eq_true_eq];refine⟨fun h=>h.2,fun h=>⟨?_,h⟩⟩;have k:∀n:Fin 8,1<=n.1->(n.1:Int)∈[-1,1,-2,2,-3,3,-4,4,-5,5,-6,6,-7,(7:Int)]/\-(n.1:Int)∈[-1,1,-2,2,-3,3,-4,4,-5,5,-6,6,-7,(7:Int)]:=by decide
 have k:=k ⟨_,Nat.lt_succ_of_le h2⟩ h1;rcases Int.natAbs_eq x with e|e;.rw[e];exact k.1
 .rw[e];exact k.2
theorem lcl_sub(h:x∈lcl l):x∈l:=by
 unfold lcl at h;rw[yM,decide_eq_true_eq]at h;exact h.2
theorem l14:[-1,1,-2,2,-3,3,-4,4,-5,5,-6,6,-7,(7:Int)].Pairwise fun a b=>a.natAbs<b.natAbs\/b=-a:=by decide
theorem lcl_sa(h:∀x∈l,-x∉l):SA (lcl l):=by
 have h1:(lcl l).Pairwise fun a b=>a.natAbs<b.natAbs\/b=-a:=List.Pairwise.filter _ l14;refine List.Pairwise.imp_of_mem (fun{a b}ha hb q=>?_) h1;rcases q with q|q;.exact q
 .subst q;exact absurd (lcl_sub hb) (h a (lcl_sub ha))
theorem lcl_len(h:∀x∈l,-x∉l):(lcl l).length<=l.length:=by
 refine nodup_len _ _ ?_ fun x hx=>lcl_sub hx;exact List.Pairwise.imp (fun{a b}hab e=>by subst e;exact Nat.lt_irrefl _ hab) (lcl_sa h)
theorem lcl_ok{t:Int}(hn:tr.length<=5)(hl:l.length<=3)(h:∀x∈l,-x∉l)(hb:∀x∈l,1<=x.natAbs/\x.natAbs<=tr.length+1)(ht:t∈l)(htr:t∈tr):ClOk tr (lcl l):=⟨lcl_sa h,zE (lcl_len h) hl,fun x hx e=>by have :=(hb x (lcl_sub hx)).1;rw[e]at this;exact absurd this (by decide),fun x hx=>(hb x (lcl_sub hx)).2,t,(lcl_mem (hb t ht).1 (by have :=(hb t ht).2;exact lB 0x70604121000065210067200 tT hn this)).mpr ht,htr⟩
theorem TrOk.mem(h:TrOk tr)(hx:x∈tr):1<=x.natAbs/\x.natAbs<=tr.length:=by
 obtain⟨i,hi,e⟩:=yI hx;have :=h i x (by rw[zH hi,e]);exact⟨this▸Nat.succ_pos i,this▸hi⟩
theorem TrOk.neg(h:TrOk tr)(hx:x∈tr):-x∉tr:=fun hy=>by
 obtain⟨i,hi,e⟩:=yI hx;obtain⟨i',hi',e'⟩:=yI hy;have h1:=h i x (by rw[zH hi,e]);have h2:=h i' (-x) (by rw[zH hi',e']);have :i=i':=Nat.succ.inj (h1.symm.trans ((Int.natAbs_neg x).symm.trans h2));subst this;rw[e]at e';exact lX 0x75644020154020056015402007e7e25041210008080650202 tT h1 (zY (lZ 0x77f7f55440201018282350102 tT e')) (zT (lZ 0x756440201018282350201 tT e'))
theorem TrOk.inj(h:TrOk tr){i':Nat}{y:Int}(hx:tr[i]?=some x)(hy:tr[i']?=some y)(e:x.natAbs=y.natAbs):i=i'/\x=y:=by
 have h1:=h i x hx;have h2:=h i' y hy;have :i=i':=by exact lD 0x7817f25041210307f812504120020817f253020261000 tT e h1 h2
 clear h2;subst this;rw[hx]at hy;exact⟨rfl,zS hy⟩
noncomputable abbrev fV(n:Nat):Val:=.loc (.law 0) n
theorem memb1(h:μ[i]?=some none):∀a∈[i],μ[a]?=some none:=fun a ha=>by rw[zD]at ha;subst ha;exact h
theorem alloc_t(h:u≠t):(S.alloc t o).H u=S.H u:=zN h
theorem put_t(h:u≠t):(S.put t v o).H u=S.H u:=zN h
theorem Feed.alloc(f:Feed S n c cells b)(h:2<=i)(o:HObj):Feed (S.alloc (.law i) o) n c cells b:=let⟨kk,a,e⟩:=f.at_;⟨⟨kk,a,(alloc_t (by simp;exact fun e=>lA 0x77f7f2500020600228080650202 tT h e)).trans e⟩,(alloc_t (by simp;exact fun e=>lA 0x77f7f2500120600228080650202 tT h e)).trans f.ce,f.len⟩
theorem Feed.put(f:Feed S n c cells b)(h:2<=i)(o:HObj):Feed (S.put (.law i) v o) n c cells b:=let⟨kk,a,e⟩:=f.at_;⟨⟨kk,a,(put_t (by simp;exact fun e=>lA 0x77f7f2500020600228080650202 tT h e)).trans e⟩,(put_t (by simp;exact fun e=>lA 0x77f7f2500120600228080650202 tT h e)).trans f.ce,f.len⟩
theorem Feed.frT{l:Nat}(f:Feed S n c cells b)(a:FrT l S S'):Feed S' n c cells b:=let⟨kk,x,e⟩:=f.at_;⟨⟨kk,x,(a _ trivial).trans e⟩,(a _ trivial).trans f.ce,f.len⟩
theorem w_truths(hE:∀{S:AS}{b:Nat}{w:Int}{Q:VQ},Feed S n c cells b->b<=900->1<=w->(∀S'(r:Nat),(r:Int)<w->Feed S' n c cells (b+1)->FrL S S'->Q (.int r) S')->E.C .draw [fV n,.int w] S Q)(f:Feed S n c cells 0)(q:∀S' tr v,3<=tr.length->tr.length<=5->TrOk tr->Feed S' n c cells 20->S'.H (.law 2)=some (v,.list (iL tr))->K (.loc (.law 2) v) S'):wpX E (.comp (.ite (.cmp .eq (.call .draw (.cons (.lc 0) (.cons (.int 2) .nil))) (.int 0)) (.lc 9) (.neg (.lc 9))) [9] (.rng (.int 1) (.bin .add (.int 4) (.call .draw (.cons (.lc 0) (.cons (.int 3) .nil)))) (.int 1) 2) .nil [("feed",0),("v",9)]) [some (fV n),none,none,none,none,none,none,none,none,none,none] S K:=by
  refine⟨memb1 rfl,?_⟩;refine hE f (by decide) (by decide) fun S1 r hr f1 _=>?_;have hr:r<3:=Int.ofNat_lt.mp hr;refine⟨by decide,by exact lB 0x75604540210425402001632101683e33200 tT hr (zY (lA 0x736045402004202 tT)),.inl rfl,?_⟩;show compO _ (fun _=>True) (rngVals 1 (4+r) 1) [] S1 _;rw[rng_up (a:=1) (m:=1) (n:=4+r) rfl (by exact lA 0x75654020400420454020042 tT),show 4+r-1=3+r by exact lB 0x78180250410420412008081050412000410422604103200 tT (le_sub_ad _ _) (yC (lA 0x70604004212 tT))];refine compO_ind (fun rest acc S=>∃trs:List Int,acc=iL trs/\TrOk trs/\trs.length<=3+r/\rest=(List.range' (1+trs.length) (3+r-trs.length)).map (fun i:Nat=>Val.int (i:Int))/\Feed S n c cells (1+trs.length)) ?_ ?_ _ _ _ ⟨[],rfl,fun i l h=>by simp at h,yA _,rfl,f1⟩ ?_
  .rintro rest acc S⟨trs,rfl,h1,h2,h3,h4⟩;exact⟨trivial,by rw[zA];exact lB 0x706041032001632100683e33200 tT hr h2⟩
  . rintro x rest acc S K⟨trs,rfl,h1,h2,h3,h4⟩hK;obtain⟨m,hm⟩:∃m,3+r-trs.length=m+1:=by
      cases q:3+r-trs.length with|zero=>rw[q]at h3;cases h3|succ m=>exact⟨m,rfl⟩
    rw[hm,List.range'_succ,List.map_cons]at h3;injection h3 with h3 h5;subst h3;refine⟨nb rfl,?_⟩;refine hE h4 (by exact lB 0x7060410320016321006438332040012 tT hr h2) (by decide) fun S2 r2 hr2 f2 _=>?_;have fin:∀a:Int,a.natAbs=1+trs.length->K (iL trs++[.int a]) S2:=fun a ha=>by
      refine hK _ _ ⟨trs++[a],by rw[iL,iL,zV];rfl,fun i l hl=>?_,by rw[zJ,List.length_singleton];exact lD 0x7260410320400207f7f250412302006041032041200 tT hm (yC (lB 0x706041032000604103200 tT h2)),?_,f2.up (by rw[zJ,List.length_singleton];exact lA 0x70604041200120412040012 tT)⟩
      . rcases Nat.lt_trichotomy i trs.length with q|q|q;.rw[zZ q]at hl;exact h1 i l hl
        .subst q;simp at hl;subst hl;exact lB 0x7817f25041012002604121000 tT ha
        .rw[List.getElem?_append_right (by exact lB 0x7161000061000 tT q),yJ (by simp;exact lC 0x70604100020162010060012 tT q (le_sub_ad _ _))]at hl;cases hl
      .rw[h5,zJ,List.length_singleton];congr 2<;>lia
    by_cases c0:(r2:Int)=0;.refine r_eq true (yG.mpr c0) ?_;exact fin _ (by exact lB 0x7818055540204101254020080813554020054020410122604101200 tT Int.le_natAbs (zY (lA 0x736540204001202 tT)))
    .refine r_eq false (zQ.mpr c0) ?_;exact fin _ (by exact lB 0x7817f554402440254020410125402002604101200 tT (zT (lA 0x7360244025402040012 tT)))
  . rintro acc S⟨trs,rfl,h1,h2,h3,h4⟩;have hl:3+r-trs.length=0:=by
      cases q:3+r-trs.length with|zero=>rfl|succ m=>rw[q]at h3;cases h3
    refine r_newL (.law 2) (by rw[zA];exact lB 0x706041032001632100683e33200 tT hr h2) ?_;exact q _ trs _ (by exact lC 0x706040010042032260210060032 tT hl (le_sub_ad _ _)) (by exact lB 0x70604103200163210065200 tT hr h2) h1 ((h4.alloc (yO _) _).up (by exact lB 0x70604103200163210064312040012 tT hr h2)) alloc_eq
theorem w_elder(hE:∀{S:AS}{b:Nat}{w:Int}{Q:VQ},Feed S n c cells b->b<=900->1<=w->(∀S'(r:Nat),(r:Int)<w->Feed S' n c cells (b+1)->FrL S S'->Q (.int r) S')->E.C .draw [fV n,.int w] S Q){v2:Nat}(hb:b<=800)(f:Feed S n c cells b)(htr:S.H (.law 2)=some (v2,.list (iL tr)))(hi:i<tr.length)(hn:tr.length<=5){x2 x4 x6 x7 x8 x9:Option Val}(q:∀S' es v,es.length<=2->(∀x∈es,∃j,j<i/\tr[j]?=some (-x))->Feed S' n c cells (b+3)->(∀t,t≠.law 0->t≠.law 4->S'.H t=S.H t)->S'.H (.law 4)=some (v,.list (iL es))->K (.loc (.law 4) v) S'):wpX E (.comp (.neg (.sub (.lc 1) (.call .draw (.cons (.lc 0) (.cons (.lc 3) .nil))))) [10] (.rng (.int 0) (.ite (.cmp .gt (.lc 3) (.int 0)) (.call .draw (.cons (.lc 0) (.cons (.int 3) .nil))) (.int 0)) (.int 1) 1) .nil [("feed",0),("truths",1),("k",3),("lap",10)]) [some (fV n),some (.loc (.law 2) v2),x2,some (.int i),x4,x5,x6,x7,x8,x9,none] S K:=by
  refine⟨memb1 rfl,?_⟩;have key:∀S1(r:Nat),r<3->(0<r->0<i)->Feed S1 n c cells (b+1)->(∀t,t≠.law 0->S1.H t=S.H t)->compO (fun x acc S K=>bindNames [10] x [some (fV n),some (.loc (.law 2) v2),x2,some (.int i),x4,x5,x6,x7,x8,x9,none] fun μ'=>wpX E (.neg (.sub (.lc 1) (.call .draw (.cons (.lc 0) (.cons (.lc 3) .nil))))) μ' S fun v S=>K (acc++[v]) S) (fun _=>True) (rngVals 0 r 1) [] S1 fun acc S=>newL acc S K:=fun S1 r hr hri f1 F1=>by
    rw[rng_up (a:=0) (m:=0) rfl rfl,Nat.sub_zero];refine compO_ind (fun rest acc S'=>∃es:List Int,acc=iL es/\(∀x∈es,∃j,j<i/\tr[j]?=some (-x))/\es.length+rest.length=r/\(∀x∈rest,∃a:Int,x=.int a)/\Feed S' n c cells (b+1+es.length)/\(∀t,t≠.law 0->S'.H t=S.H t)) ?_ ?_ _ _ _ ⟨[],rfl,nofun,by simp,fun x hx=>by refine xea (yE.mp hx) fun a _ e_2=>?_;clear hx;subst e_2;exact⟨_,rfl⟩,f1,F1⟩ ?_;.intro rest acc S' q_r;refine xea5 q_r fun es e_1 h1 h2 h3 h4 h5=>?_;subst e_1;exact⟨trivial,by rw[zA];exact lC 0x726100420001632100683e33200 tT hr h2⟩
    . intro x rest acc S' K' q_r hK;refine xea5 q_r fun es e_1 h1 h2 h3 h4 h5=>?_;subst e_1;rw[List.length_cons]at h2;have hi0:=hri (by exact lC 0x726000404122010160002 tT h2);refine⟨nb rfl,?_⟩;refine hE h4 (by exact lD 0x7262004041230101632200603233200064383320410041200 tT hb hr h2) (by exact lA 0x71600023654020012 tT hi0) fun S2 m hm f2 F2=>?_;have hm:m<i:=Int.ofNat_lt.mp hm;have e2:S2.H (.law 2)=some (v2,.list (iL tr)):=(F2 (.law 2) (nD rfl)).trans ((h5 (.law 2) (nD rfl)).trans htr);refine get_int (y:=tr.getD m 0) e2 (by exact lA 0x70652000673e33200 tT hn) rfl (getD_some (by exact lC 0x7162000161020161000 tT hi hm)) ?_;refine hK _ _ ⟨es++[-(tr.getD m 0)],by rw[iL,iL,zV];rfl,fun x hx=>?_,by rw[zJ,List.length_singleton];exact lC 0x7817f2520040412100026200410041200 tT h2,fun x hx=>h3 x (zI _ hx),f2.up (by rw[zJ,List.length_singleton];exact lB 0x7060404121004120004120410041200 tT),fun t ht=>(F2 t ht).trans (h5 t ht)⟩;rcases yV.mp hx with h|h;.exact h1 x h
      .rw[zD]at h;clear hx;subst h;exact⟨m,hm,by rw[Int.neg_neg];exact getD_some (by exact lC 0x7162000161020161000 tT hi hm)⟩
    .intro acc S' q_r;refine xea5 q_r fun es e_1 h1 h2 h3 h4 h5=>?_;subst e_1;rw[List.length_nil]at h2;refine r_newL (.law 4) (by rw[zA];exact lB 0x726100402001632100683e33200 tT hr h2) ?_;exact q _ es _ (by exact lB 0x72610040200163210062200 tT hr h2) h1 ((h4.alloc (by decide) _).up (by exact lC 0x72620040210163220060432000410041200 tT hr h2)) (fun t h0 h4=>(alloc_t h4).trans (h5 t h0)) alloc_eq
  by_cases c0:i=0
  .refine r_gt false (by rw[c0];rfl) ?_;refine⟨by decide,by decide,.inl rfl,?_⟩;exact key S 0 (by decide) (fun h=>absurd h (by decide)) (f.up (by exact lA 0x70604120000 tT)) fun t _=>rfl
  .refine r_gt true (by simp;exact(Nat.lt_or_gt_of_ne c0).elim (fun a=>lA 0x71602008080150002 tT a) fun a=>lA 0x7160002160002 tT a) ?_;refine hE f (by exact lA 0x706032332000643833200 tT hb) (by decide) fun S1 r hr f1 F1=>?_;have hr:r<3:=Int.ofNat_lt.mp hr;refine⟨by decide,by exact lB 0x7565402105402001632101683e33200 tT hr (zY (lA 0x73654020002 tT)),.inl rfl,?_⟩;exact key S1 r hr (fun _=>Nat.pos_of_ne_zero c0) f1 F1
theorem enum_drop{r:List Val}{x:Val}(h:(enumVals xs).drop i=x::r):∃y,xs[i]?=some y/\x=.tup [.int i,y]/\r=(enumVals xs).drop (i+1):=by
 have h1:(enumVals xs)[i]?=some x:=by
  have :=List.getElem?_drop (xs:=enumVals xs) (i:=i) (j:=0);rw[h]at this;exact this.symm
 have h2:r=(enumVals xs).drop (i+1):=by rw[<-List.drop_drop,h];rfl
 unfold enumVals at h1;rw[zX,List.getElem?_zipIdx]at h1;clear h;cases hy:xs[i]? with|none=>rw[hy]at h1;cases h1|some y=>rw[hy]at h1;cases h1;exact⟨y,rfl,by simp,h2⟩
theorem KOk.more{cls':List (List Int)}(h:KOk tr cls i)(s:∀c∈cls,c∈cls'):KOk tr cls' i:=fun l hl=>(h l hl).imp fun c q=>⟨s c q.1,q.2⟩
theorem r_add{a:Nat}(h1:S.H t=some (a,.list xs))(h2:S.H u=some (b,.list ys))(hl:xs.length+ys.length<=1000)(z:Tag)(q:Q (.loc z S.n) (S.alloc z (.list (xs++ys)))):binOp .add (.loc t a) (.loc u b) S Q:=⟨rfl,_,_,listAt_loc h1,listAt_loc h2,hl,z,q⟩
variable{t:List Int}
theorem w_put(hd:2<=d){v2 v6:Nat}(f:Feed S n c cells b)(h2:S.H (.law 2)=some (v2,.list (iL tr)))(h3:S.H (.law 3)=some (v3,.list (cls.map cV)))(h6:S.H (.law 6)=some (v6,.list (iL l)))(hl:cls.length<=900)(q:∀S',Feed S' n c cells b->S'.H (.law 2)=some (v2,.list (iL tr))->S'.H (.law 3)=some (v3,.list ((cls++[lcl l]).map cV))->Q .none S'):Y.C (d-1) .lclause [.loc (.law 6) v6] S fun v S=>appTo (.loc (.law 3) v3) v S Q:=by
 refine s_lclause Y (d:=d-1) (dd hd rfl) h6 fun S' F=>?_;refine r_app ((F (.law 3) trivial).trans h3) (by rw[zA];exact hl) ?_;exact q _ ((f.frT F).put (by decide) _) ((put_t (nD rfl)).trans ((F (.law 2) trivial).trans h2)) (by rw[zV];exact put_eq)
variable{l:Int}
inductive WI(n c:Nat)(cells tr:List Int)(v2 v3:Nat)(rest:List Val)(S:AS):Mu->Prop|mk{i b:Nat}{cls:List (List Int)}(x3 x4 x5:Option Val):rest=(enumVals (iL tr)).drop i->i<=tr.length->cls.length=i->b+4*(tr.length-i)<=40->Feed S n c cells b->S.H (.law 2)=some (v2,.list (iL tr))->S.H (.law 3)=some (v3,.list (cls.map cV))->(∀c∈cls,ClOk tr c)->(∀i'<i,KOk tr cls i')->WI n c cells tr v2 v3 rest S [some (fV n),some (.loc (.law 2) v2),some (.loc (.law 3) v3),x3,x4,x5,none,none,none,none,none]
inductive WJ(n c:Nat)(cells tr:List Int)(v2 v3:Nat)(rest:List Val)(S:AS):Mu->Prop|mk{b:Nat}{cls:List (List Int)}(x3 x4 x5 x6 x7:Option Val):cls.length+rest.length<=tr.length+2->3<=cls.length->b+2*rest.length<=60->Feed S n c cells b->S.H (.law 2)=some (v2,.list (iL tr))->S.H (.law 3)=some (v3,.list (cls.map cV))->(∀c∈cls,ClOk tr c)->(∀i'<tr.length,KOk tr cls i')->WJ n c cells tr v2 v3 rest S [some (fV n),some (.loc (.law 2) v2),some (.loc (.law 3) v3),x3,x4,x5,x6,x7,none,none,none]
theorem ngs(h:1<=x.natAbs)(hy:-x=x):False:=lY 0x756440201540200560154020082820500128080650202 tT h (zY (lZ 0x756014402018282350102 tT hy)) (zT (lZ 0x77f7f55014402018282350201 tT hy))
theorem opp2{t u:Int}(h:u≠-t)(ht:1<=t.natAbs)(hu:1<=u.natAbs)(hx:x=t\/x=u)(hy:-x=t\/-x=u):False:=hx.elim (fun e=>hy.elim (fun q=>ngs (e▸ht) (q.trans e.symm)) fun q=>h (e▸q.symm)) fun e=>hy.elim (fun q=>h (by rw[<-q,Int.neg_neg,e])) fun q=>ngs (e▸hu) (q.trans e.symm)
theorem s_world(hd:3<=d)(f:Feed S n c cells 0)(q:∀S' tr cls v2 v3 i,7<=i->i<=8->World tr cls->Feed S' n c cells 100->S'.H (.law 2)=some (v2,.list (iL tr))->S'.H (.law i)=some (v3,.list (cls.map cV))->Q (.tup [.loc (.law 2) v2,.loc (.law i) v3]) S'):Y.C d .world [fV n] S Q:=by
  refine Y.run 10 (zE (nb rfl) hd) (by decide) rfl ?_;have hE:∀{S:AS}{b:Nat}{w:Int}{Q:VQ},Feed S n c cells b->b<=900->1<=w->(∀S'(r:Nat),(r:Int)<w->Feed S' n c cells (b+1)->FrL S S'->Q (.int r) S')->(Y.E (d-1)).C .draw [fV n,.int w] S Q:=fun f hb hw q=>s_draw Y (d:=d-1) (dd hd rfl) f hb hw q;refine s_asg ?_;refine w_truths hE f fun S1 tr v2 n1 n2 ht f1 h2=>?_;refine⟨nb rfl,?_⟩;refine r_newL (.law 3) (yA _) ?_;refine⟨nb rfl,?_⟩;have f2:=f1.alloc (i:=3) (by decide) (.list []);have h22:(S1.alloc (.law 3) (.list [])).H (.law 2)=_:=(alloc_t (nD rfl)).trans h2;have h32:(S1.alloc (.law 3) (.list [])).H (.law 3)=some (S1.n,.list (([]:List (List Int)).map cV)):=alloc_eq;show wpSts (Y.E (d-1)) (.cons _ _) [some (fV n),some (.loc (.law 2) v2),some (.loc (.law 3) S1.n),none,none,none,none,none,none,none,none] (S1.alloc (.law 3) (.list [])) _;generalize S1.n=v3 at h32⊢;generalize S1.alloc _ _=S2 at f2 h22 h32⊢;clear h2 f1 S1;refine⟨_,listAt_loc h22,by rw[zA];exact lA 0x70652000683e33200 tT n2,?_⟩;refine forO_ind (fun rest μ S=>WI n c cells tr v2 v3 rest S μ) ?_ ?_ _ _ _ (.mk (i:=0) (b:=20) (cls:=[]) none none none rfl (yA _) rfl (by exact lB 0x784840510008484055210068322041442004312 tT n2 (Nat.sub_le _ _)) f2 h22 h32 nofun nofun) ?_
  .rintro rest μ S⟨x3,x4,x5,_,_,_,_,_,h2,_⟩;exact listAt_loc h2
  . rintro x rest μ S K(@⟨i,b,cls,x3,x4,x5,hr,hil,hc,hb,f3,h2,h3,ok,kk⟩)hK;refine xea2 (enum_drop hr.symm) fun y hy e_2 hr2=>?_;clear hr hil;subst e_2;rw[zX]at hy;refine xea (yX.mp hy) fun l hl e_2=>?_;subst e_2;have hi:=idx_lt hl;refine⟨_,rfl,rfl,(by show∀a∈[3,4],a<11;decide),?_⟩;show wpSts (Y.E (d-1)) (.cons (.asg (.nm 5) _) _) [some (fV n),some (.loc (.law 2) v2),some (.loc (.law 3) v3),some (.int i),some (.int l),x5,none,none,none,none,none] S K;refine s_asg ?_;refine w_elder (E:=Y.E (d-1)) hE (i:=i) (by exact lB 0x706832204144210000603233200 tT hb) f3 h2 hi n2 fun S4 es v4 hel hes f4 F4 h4=>?_;refine⟨nb rfl,?_⟩;have h34:=(F4 (.law 3) (nD rfl) (nD rfl)).trans h3;have h24:=(F4 (.law 2) (nD rfl) (nD rfl)).trans h2;refine⟨⟨_,_,_,rfl,h34⟩,?_⟩;refine r_newL (.law 5) (nb rfl) ?_;refine lc_rule rfl ?_;refine r_add (t:=.law 5) (u:=.law 4) (xs:=iL [l]) (ys:=iL es) alloc_eq ((alloc_t (nD rfl)).trans h4) (by rw[zA,zA];show 1+es.length<=1000;exact lA 0x70622000683e332040012 tT hel) (.law 6) ?_;have e6:iL [l]++iL es=iL (l::es):=rfl;rw[e6];have hlt:l∈tr:=yB hl;have hle:=ht.mem hlt;have hesm:∀x∈es,-x∈tr:=fun x hx=>by refine xea (hes x hx) fun j _ hj=>?_;exact yB hj
    have hopp:∀x∈l::es,-x∉l::es:=by
      intro x hx hy;have hne:∀x∈es,x≠-l:=fun x hx e=>by
        refine xea (hes x hx) fun j hj hjt=>?_;rw[e,Int.neg_neg]at hjt;have :=(ht.inj hl hjt rfl).1;exact lB 0x72600101610008080650202 tT hj this
      rcases zL.mp hx with rfl|hx<;>rcases zL.mp hy with hy|hy;.exact ngs hle.1 hy
      .exact hne _ hy rfl
      .exact hne _ hx (by exact lin [] [_,_] 0x77f8155114402015644021101 tT hy)
      .exact ht.neg (hesm _ hx) (hesm _ hy)
    have hok:ClOk tr (lcl (l::es)):=lcl_ok (t:=l) n2 (by rw[List.length_cons];exact lA 0x70622000632041200 tT hel) hopp (fun x hx=>by
      rcases zL.mp hx with rfl|hx;.exact⟨hle.1,Nat.le_succ_of_le hle.2⟩
      .have :=ht.mem (hesm x hx);rw[Int.natAbs_neg]at this;exact⟨this.1,Nat.le_succ_of_le this.2⟩) (zF ..) hlt;refine w_put Y (d:=d) (yU hd) ((f4.alloc (by decide) _).alloc (by decide) _) ((alloc_t (nD rfl)).trans ((alloc_t (nD rfl)).trans h24)) ((alloc_t (nD rfl)).trans ((alloc_t (nD rfl)).trans h34)) alloc_eq (by exact lC 0x71610202620000652100643833200 tT n2 hc hi) fun S5 f5 h25 h35=>?_;refine hK _ _ (.mk (i:=i+1) (cls:=cls++[lcl (l::es)]) (b:=b+3) _ _ _ hr2 hi (by rw[zJ,hc];rfl) (by exact lE 0x784840504302040848425400404123010068322041442200006832204144210043200 tT hb (yC (lB 0x71610000610041200 tT hi)) (le_sub_ad _ _)) f5 h25 h35 (fun c hc=>?_) fun i' hi'=>?_)
    . rcases yV.mp hc with h|h;.exact ok c h
      .rw[zD]at h;clear hc;subst h;exact hok
    . rcases Nat.lt_succ_iff_lt_or_eq.mp hi' with h|rfl;.exact(kk i' h).more fun c hc=>yP _ hc
      . intro l' hl';have :l'=l:=zS (hl'.symm.trans hl);subst this;refine⟨_,List.mem_append_right _ (zD.mpr rfl),(lcl_mem hle.1 (by exact lB 0x7061000065210067200 tT n2 hle.2)).mpr (zF ..),fun x hx=>?_⟩;rcases zL.mp (lcl_sub hx)with h|h;.exact .inl h
        .exact .inr (hes x h)
  . rintro μ S3(@⟨i,b,cls,x3,x4,x5,hr,hil,hc,hb,f3,h2,h3,ok,kk⟩);have hi:i=tr.length:=by
      rcases Nat.lt_or_ge i tr.length with h|h
      .have :=zG List.length hr;unfold enumVals at this;rw[List.length_drop,zA,List.length_zipIdx,zA,List.length_nil]at this;exact lC 0x780810504002010807f2520028180151000261000 tT h this (le_sub_ad _ _)
      .exact lB 0x780810500108180051000261000 tT hil h
    clear hr hil;subst hi;refine hE f3 (by exact lB 0x706832204144210000643833200 tT hb) (by decide) fun S4 r hr f4 F4=>?_;have hr:r<3:=Int.ofNat_lt.mp hr;refine⟨by decide,by exact lB 0x7565402105402001632101683e33200 tT hr (zY (lA 0x73654020002 tT)),.inl rfl,?_⟩;rw[rng_up (a:=0) (m:=0) (n:=r) rfl rfl,Nat.sub_zero];refine forO_ind (fun rest μ S=>WJ n c cells tr v2 v3 rest S μ) (fun _ _ _ _=>trivial) ?_ _ _ _ (.mk (cls:=cls) (b:=b+1) x3 x4 x5 none none (by rw[zA,List.length_range'];exact lC 0x716321026200006042220041000 tT hc hr) (by exact lB 0x77f7f251000061032060032 tT n1 hc) (by rw[zA,List.length_range'];exact lC 0x78282153210068322041442200006c33204142210041200 tT hb hr) f4 ((F4 (.law 2) (nD rfl)).trans h2) ((F4 (.law 3) (nD rfl)).trans h3) ok kk) ?_
    . rintro x rest μ S K(@⟨b,cls,x3,x4,x5,x6,x7,hcl,hc3,hb,f5,h2,h3,ok,kk⟩)hK;rw[List.length_cons]at hcl hb;refine⟨nb rfl,?_⟩;have ltr:∀{S:AS}{Q:VQ},S.H (.law 2)=some (v2,.list (iL tr))->Q (.int tr.length) S->lenOf (.loc (.law 2) v2) S Q:=fun h q=>len_ints h (by exact lA 0x70652000673e33200 tT n2) q;refine ltr h2 ?_;refine hE f5 (by exact lB 0x706c332041422041210000643833200 tT hb) (by exact lA 0x70600323654020012 tT n1) fun S6 m hm f6 F6=>?_;have hm:m<tr.length:=Int.ofNat_lt.mp hm;have h26:=(F6 (.law 2) (nD rfl)).trans h2;have h36:=(F6 (.law 3) (nD rfl)).trans h3;refine get_int (y:=tr.getD m 0) h26 (by exact lA 0x70652000673e33200 tT n2) rfl (getD_some hm) ?_;refine ltr h26 ?_;refine hE f6 (by exact lB 0x706c3320414220412100006438332041200 tT hb) (by exact lA 0x736041254020012 tT) fun S7 r2 hr2 f7 F7=>?_;have h27:=(F7 (.law 2) (nD rfl)).trans h26;have h37:=(F7 (.law 3) (nD rfl)).trans h36;refine⟨nb rfl,?_⟩;refine⟨_,rfl,rfl,(by show∀a∈[4,7],a<11;decide),?_⟩;show wpSts (Y.E (d-1)) (.cons _ _) [some (fV n),some (.loc (.law 2) v2),some (.loc (.law 3) v3),x3,some (.int (tr.getD m 0)),x5,some x,some (.int (1+r2)),none,none,none] S7 K;refine⟨⟨_,_,_,rfl,h37⟩,?_⟩;have htm:tr.getD m 0∈tr:=by rw[zO,zH hm];exact List.getElem_mem _
      generalize tr.getD m 0=t at htm;have hle:=ht.mem htm;have fin:∀u:Int,u≠-t->1<=u.natAbs->u.natAbs<=tr.length+1->newL [.int t,.int u] S7 fun v S=>Y.C (d-1) .lclause [v] S fun v S=>appTo (.loc (.law 3) v3) v S fun v S=>match v with|.tup _|.loc _ _|.raw _=>False|_=>K .next [some (fV n),some (.loc (.law 2) v2),some (.loc (.law 3) v3),x3,some (.int t),x5,some x,some (.int (1+r2)),none,none,none] S:=fun u hu hu1 hu2=>by
        refine r_newL (.law 6) (nb rfl) ?_;have hopp:∀x∈[t,u],-x∉[t,u]:=by
          intro x hx hy;simp only[zL,List.not_mem_nil,or_false]at hx hy;exact opp2 hu hle.1 hu1 hx hy
        have hok:ClOk tr (lcl [t,u]):=lcl_ok (t:=t) n2 (nb rfl) hopp (fun x hx=>by
     simp only[zL,List.not_mem_nil,or_false]at hx;exact hx.elim (fun e=>e▸⟨hle.1,Nat.le_succ_of_le hle.2⟩) fun e=>e▸⟨hu1,hu2⟩) (zF ..) htm;refine w_put Y (d:=d) (l:=[t,u]) (yU hd) (f7.alloc (by decide) _) ((alloc_t (nD rfl)).trans h27) ((alloc_t (nD rfl)).trans h37) alloc_eq (by exact lC 0x70604221004041220000652100643833200 tT n2 hcl) fun S8 f8 h28 h38=>?_;refine hK _ _ (.mk (cls:=cls++[lcl [t,u]]) (b:=b+2) _ _ _ _ _ (by rw[zJ,List.length_singleton];exact lC 0x7060422200404121000060422200410041200 tT hcl) (by rw[zJ];exact lB 0x70600320604100032 tT hc3) (by exact lB 0x706c3320414220412100006c33204142210042200 tT hb) f8 h28 h38 (fun c hc=>?_) fun i' hi'=>(kk i' hi').more fun c hc=>yP _ hc);rcases yV.mp hc with h|h;.exact ok c h
        .rw[zD]at h;clear hc;subst h;exact hok
      have hr2':1+(r2:Int)<=tr.length+1:=by exact lB 0x74604125402105402003604125402100454020012 tT hr2
      by_cases cc:-(1+(r2:Int))=t
      .refine r_ne false (yG.mpr cc) ?_;exact fin t (by exact fun e=>lY 0x77f7f55440201017e7e5501440204540200128080650202 tT cc e) hle.1 (by exact lB 0x70610000604121000 tT hle.2)
      .refine r_ne true (zQ.mpr cc) ?_;exact fin _ (by exact fun e=>(Int.lt_or_gt_of_ne cc).elim (fun a=>lY 0x74601440204540200125644020104540200128080650202 tT e a) fun a=>lY 0x74644020454020012017f7f5544020104540200128080650202 tT e a) (by exact lB 0x7365402000454021012060012 tT Int.le_natAbs) (by exact lC 0x75604540220125402004604125402105402200604121000 tT hr2 (zY (lA 0x736045402001202 tT)))
    . rintro μ S5(@⟨b,cls,x3,x4,x5,x6,x7,hcl,hc3,hb,f5,h2,h3,ok,kk⟩);rw[List.length_nil]at hcl hb;have hcm:(cls.map cV).length=cls.length:=zA ..;refine len_list h3 (by rw[hcm];exact lB 0x7060422100402000652100673e33200 tT n2 hcl) ?_;rw[hcm];refine hE f5 (by exact lA 0x706c33204142202000643833200 tT hb) (by exact lA 0x70600323654020012 tT hc3) fun S6 m hm f6 F6=>?_;have hm:m<cls.length:=Int.ofNat_lt.mp hm;have h26:=(F6 (.law 2) (nD rfl)).trans h2;have h36:=(F6 (.law 3) (nD rfl)).trans h3;refine⟨nb rfl,?_⟩;refine⟨by exact lA 0x73654020002 tT,by exact lC 0x7162000060422100402200652104683e332540200 tT n2 hcl hm,_,listAt_loc h36,by rw[hcm];exact lB 0x7060422100402000652100683e33200 tT n2 hcl,?_⟩;refine r_newL (.law 5) (by rw[List.length_drop,hcm];exact lC 0x7062000060422100402200652100683e33200 tT n2 hcl (Nat.sub_le _ _)) ?_;refine⟨by exact lA 0x73654020002 tT,by exact lC 0x7162000060422100402200652104683e332540200 tT n2 hcl hm,.inr ⟨_,listAt_loc ((alloc_t (nD rfl)).trans h36),by rw[hcm];exact lB 0x7060422100402000652100683e33200 tT n2 hcl,?_⟩⟩;refine r_newL (.law 6) (zE (List.length_take_le ..) (by rw[yY];exact lC 0x7162000060422100402200652100683e33200 tT n2 hcl hm)) ?_;refine r_add (t:=.law 5) (u:=.law 6) ((alloc_t (nD rfl)).trans alloc_eq) alloc_eq (by rw[yY,List.length_drop,List.length_take,hcm];exact lE 0x70640102630044000060422200402300652200683e332041000 tT n2 hcl (yC (lB 0x7161000061000 tT hm)) (Nat.min_le_left _ _)) (.law 7) ?_;refine⟨nb rfl,?_⟩;rw[yY,<-List.map_drop,<-List.map_take,<-zV];have hp:(cls.drop m++cls.take m).Perm cls:=by
        have :=List.perm_append_comm (l₁:=cls.drop m) (l₂:=cls.take m);rw[List.take_append_drop]at this;exact this
      have W:∀{l:List (List Int)},l.Perm cls->World tr l:=fun{l}hp=>⟨n1,n2,ht,fun c hc=>ok c (hp.mem_iff.mp hc),fun i hi=>(kk i hi).more fun c hc=>hp.mem_iff.mpr hc,by rw[hp.length_eq];exact lB 0x706042210040200065210068200 tT n2 hcl⟩;have f7:=((f6.alloc (i:=5) (by decide) (.list ((cls.drop m).map cV))).alloc (i:=6) (by decide) (.list ((cls.take m).map cV))).alloc (i:=7) (by decide) (.list ((cls.drop m++cls.take m).map cV));generalize hm2:cls.drop m++cls.take m=cls2 at hp f7⊢;have h27:(((S6.alloc (.law 5) (.list ((cls.drop m).map cV))).alloc (.law 6) (.list ((cls.take m).map cV))).alloc (.law 7) (.list (cls2.map cV))).H (.law 2)=_:=(alloc_t (nD rfl)).trans ((alloc_t (nD rfl)).trans ((alloc_t (nD rfl)).trans h26));have h77:(((S6.alloc (.law 5) (.list ((cls.drop m).map cV))).alloc (.law 6) (.list ((cls.take m).map cV))).alloc (.law 7) (.list (cls2.map cV))).H (.law 7)=_:=alloc_eq;have key:∀(S7:AS)(v7:Nat),Feed S7 n c cells (b+1)->S7.H (.law 2)=some (v2,.list (iL tr))->S7.H (.law 7)=some (v7,.list (cls2.map cV))->wpSts (Y.E (d-1)) (.cons (.ret (.tup (.cons (.lc 1) (.cons (.ite (.cmp .eq (.call .draw (.cons (.lc 0) (.cons (.int 2) .nil))) (.int 1)) (.rev (.lc 2)) (.lc 2)) .nil)))) .nil) [some (fV n),some (.loc (.law 2) v2),some (.loc (.law 7) v7),x3,x4,x5,x6,x7,some (.int m),none,none] S7 (retQ Q):=fun S7 v7 f7 h2 h7=>by
        refine hE f7 (by exact lA 0x706c332041422020006438332041200 tT hb) (by decide) fun S8 r hr f8 F8=>?_;have h28:=(F8 (.law 2) (nD rfl)).trans h2;have h78:=(F8 (.law 7) (nD rfl)).trans h7;by_cases cc:(r:Int)=1
        .refine r_eq true (yG.mpr cc) ?_;refine⟨_,listAt_loc h78,?_⟩;refine r_newL (.law 8) (by rw[List.length_reverse,zA,hp.length_eq];exact lB 0x7060422100402000652100683e33200 tT n2 hcl) ?_;refine⟨nb rfl,?_⟩;rw[<-List.map_reverse];exact q _ tr cls2.reverse v2 _ 8 (by decide) (by decide) (W ((List.reverse_perm _).trans hp)) ((f8.alloc (by decide) _).up (by exact lA 0x706c33204142202000643620412041200 tT hb)) ((alloc_t (nD rfl)).trans h28) alloc_eq
        .refine r_eq false (zQ.mpr cc) ?_;refine⟨nb rfl,?_⟩;exact q _ tr cls2 v2 _ 7 (by decide) (by decide) (W hp) (f8.up (by exact lA 0x706c33204142202000643620412041200 tT hb)) h28 h78
      exact key _ _ f7 h27 h77
variable{c:List Int}
noncomputable def fullN(N:Nat):Nat:=2^2^N-1
noncomputable def lowN(N a:Nat):Nat:=fullN N/(2^2^(a-1)+1)
noncomputable def colN(N:Nat)(l:Int):Nat:=if l<0 then lowN N l.natAbs else fullN N-lowN N l.natAbs
noncomputable def satL(i:Nat)(x:Int):Bool:=Nat.testBit i (x.natAbs-1)==decide (0<x)
noncomputable def colBit(N:Nat)(l:Int):Bool:=(List.range (2^N)).all (fun i=>Nat.testBit (colN N l) i==satL i l)&&decide (colN N l<2^2^N)
theorem colBit_all:[4,5,6].all (fun N=>(List.range N).all fun a=>colBit N ((a+1:Nat):Int)&&colBit N (-((a+1:Nat):Int)))=true:=by decide+kernel
noncomputable def colOk(N a:Nat):Bool:=decide ((Builtin.Int.intBits 2:Int)*N<=2^27)&&decide ((Builtin.Int.intBits 2:Int)*2^N<=2^27)&&!(Builtin.divisionGoesByPylong ((2:Int)^2^N-1) ((2:Int)^2^a+1))&&decide ((Builtin.Int.intBits 2:Int)*a<=2^27)&&decide ((Builtin.Int.intBits 2:Int)*2^a<=2^27)&&decide (((2:Int)^2^N-1).fdiv ((2:Int)^2^a+1)=(lowN N (a+1):Int))&&decide (lowN N (a+1)<=fullN N)&&decide (1<=2^2^N)
theorem colOk_all:[4,5,6].all (fun N=>(List.range N).all fun a=>colOk N a)=true:=by decide+kernel
theorem of_all{f:Nat->Nat->Bool}(h:[4,5,6].all (fun N=>(List.range N).all fun a=>f N a)=true){a:Nat}(h1:4<=N)(h2:N<=6)(ha:a<N):f N a=true:=by
 rw[yL]at h;have k:∀n:Fin 7,4<=n.1->n.1∈[4,5,6]:=by decide
 have :=h N (k ⟨N,Nat.lt_succ_of_le h2⟩ h1);rw[yL]at this;exact this a (List.mem_range.mpr ha)
theorem col_bit(h1:4<=N)(h2:N<=6)(hl:1<=l.natAbs)(hl2:l.natAbs<=N):(∀i,i<2^N->Nat.testBit (colN N l) i=satL i l)/\colN N l<2^2^N:=by
  have :=of_all (f:=fun N a=>colBit N ((a+1:Nat):Int)&&colBit N (-((a+1:Nat):Int))) colBit_all h1 h2 (a:=l.natAbs-1) (by exact lC 0x72620041200061020161000 tT hl2 (yC (lA 0x7060012060012 tT hl)));rw[yN]at this;have key:colBit N l=true:=by
    rcases Int.lt_or_le l 0 with c|c
    . have e:l=-((l.natAbs-1+1:Nat):Int):=by exact lX 0x7817f554402015402108180251004120080810504120010564402540204120001 tT (le_sub_ad _ _) (yC (lA 0x7060012060012 tT hl)) (zT (lZ 0x7460201360201 tT c))
      rw[e];exact this.2
    . have e:l=((l.natAbs-1+1:Nat):Int):=by exact lX 0x78081550154021081803554021001808125100412008180050412001056540204120001 tT (le_sub_ad _ _) (yC (lA 0x7060012060012 tT hl)) Int.le_natAbs (zY (lZ 0x7360102360102 tT c))
      rw[e];exact this.1
  unfold colBit at key;rw[yN,yL,decide_eq_true_eq]at key;exact⟨fun i hi=>by have :=key.1 i (List.mem_range.mpr hi);exact yG.mp this,key.2⟩
theorem p2(n:Nat):(2:Int)^n=((2^n:Nat):Int):=by rw[Int.natCast_pow];rfl
theorem p2n(n:Nat):((2:Int)^n).toNat=2^n:=by rw[p2,yY]
theorem p2p(n:Nat):(0:Int)<=2^n:=by rw[p2];exact Int.natCast_nonneg _
theorem pfull(N:Nat):(2:Int)^((2:Int)^N).toNat-1=(fullN N:Int):=by
 have :1<=2^2^N:=Nat.one_le_two_pow;unfold fullN;rw[p2n,p2];exact lB 0x78081250004121081800504121000565402103412540200 tT (le_sub_ad _ _) (yC (lA 0x7060012060012 tT this))
theorem s_column(hd:1<=d)(h1:4<=N)(h2:N<=6)(hl:1<=l.natAbs)(hl2:l.natAbs<=N)(q:Q (.int (colN N l)) S):Y.C d .column [.int l,.int N] S Q:=by
 refine Y.run 2 hd (by decide) rfl ?_;have ok:=of_all colOk_all h1 h2 (a:=l.natAbs-1) (by exact lC 0x72620041200061020161000 tT hl2 (yC (lA 0x7060012060012 tT hl)));unfold colOk at ok;simp only[yN,decide_eq_true_eq,Bool.not_eq_true']at ok;obtain⟨⟨⟨⟨⟨⟨⟨o1,o2⟩,o3⟩,o4⟩,o5⟩,o6⟩,o7⟩,o8⟩:=ok;refine⟨by exact lA 0x73654020002 tT,o1,p2p N,o2,?_⟩;refine⟨nb rfl,?_⟩;show wpSts (Y.E (d-1)) (.cons _ _) [some (.int l),some (.int N),some (.int ((2:Int)^((2:Int)^N).toNat-1)),none] S (retQ Q);rw[pfull];have ea:((l.natAbs:Int)-1)=((l.natAbs-1:Nat):Int):=by exact lB 0x78081250004121081800504121000565402103412540200 tT (le_sub_ad _ _) (yC (lA 0x7060012060012 tT hl))
 have hpow:∀K:Val->AS->Prop,K (.int ((2:Int)^2^(l.natAbs-1))) S->wpX (Y.E (d-1)) (.bin .pow (.int 2) (.bin .pow (.int 2) (.bin .sub (.abs (.lc 0)) (.int 1)))) [some (.int l),some (.int N),some (.int (fullN N)),none] S K:=fun K hK=>by
  show 0<=((l.natAbs:Int)-1)/\(Builtin.Int.intBits 2:Int)*((l.natAbs:Int)-1)<=2^27/\0<=(2:Int)^((l.natAbs:Int)-1).toNat/\(Builtin.Int.intBits 2:Int)*(2:Int)^((l.natAbs:Int)-1).toNat<=2^27/\K (.int ((2:Int)^((2:Int)^((l.natAbs:Int)-1).toNat).toNat)) S;rw[ea,yY,p2n];exact⟨by exact lA 0x73654020002 tT,o4,p2p _,o5,hK⟩
 refine hpow _ ?_;have ef:(2:Int)^2^N-1=(fullN N:Int):=by have :=pfull N;rw[p2n]at this;exact this
 rw[ef]at o3 o6;refine⟨by have :=p2p (2^(l.natAbs-1));exact fun e=>lZ 0x756020412013601028080650202 tT this e,o3,?_⟩;refine⟨nb rfl,?_⟩;show wpSts (Y.E (d-1)) _ [some (.int l),some (.int N),some (.int (fullN N)),some (.int ((fullN N:Int).fdiv ((2:Int)^2^(l.natAbs-1)+1)))] S (retQ Q);rw[o6,show l.natAbs-1+1=l.natAbs by exact lB 0x77f815554020034125402102610041200 tT ea];rw[show l.natAbs-1+1=l.natAbs by exact lB 0x77f815554020034125402102610041200 tT ea]at o7;unfold colN at q;by_cases c:l<0;.rw[zU c]at q;exact r_lt true (decide_eq_true c) q
 .rw[zN c]at q;refine r_lt false (yR c) ?_;show Q (.int ((fullN N:Int)-lowN N l.natAbs)) S;rw[<-Int.ofNat_sub o7];exact q
noncomputable def satC(i:Nat)(c:List Int):Bool:=c.any (satL i)
theorem for_keep{chk:AS->Prop}{Q:SQ}(f:α->Val)(all:List α)(R:List α->Mu->Prop){μ0:Mu}(hc:chk S)(h0:R [] μ0)(ht:∀done a todo μ K,all=done++a::todo->R done μ->(∀μ',R (done++[a]) μ'->K .next μ' S)->turn (f a) μ S K)(q:∀μ,R all μ->Q .next μ S):forO turn chk (all.map f) μ0 S Q:=by
 have key:∀(todo done:List α)(μ:Mu),all=done++todo->R done μ->forO turn chk (todo.map f) μ S Q:=by
  intro todo;induction todo with|nil=>exact fun done μ e r=>forO_nil hc (q μ ((e.trans (yS _))▸r))|cons a todo ih=>exact fun done μ e r=>forO_cons hc fun K kn _ _ _=>ht done a todo μ K e r fun μ' r'=>kn _ _ (ih _ _ (e.trans (List.append_cons ..)) r')
 exact key all [] μ0 rfl h0
inductive Fol(mu:Nat->Option Val->Option Val->Option Val->Mu)(N:Nat)(b:Nat->Bool):Mu->Prop|mk(L:Nat)(x4 x5 x6:Option Val):(∀i,i<2^N->Nat.testBit L i=b i)->Fol mu N b (mu L x4 x5 x6)
theorem s_follows(hd:2<=d){v:Val}{cs:List (List Int)}(h1:4<=N)(h2:N<=6)(hl:1<=l.natAbs)(hl2:l.natAbs<=N)(hv:S.seqOf v=some (cs.map cV))(hc:cs.length<=900)(hcc:∀c∈cs,c.length<=900/\∀x∈c,1<=x.natAbs/\x.natAbs<=N)(hs:∀i,(∀c∈cs,satC i c=true)->satL i l=true)(q:Q (.bool true) S):Y.C d .follows [v,.int l,.int N] S Q:=by
  refine Y.run 4 (yU hd) (by decide) rfl ?_;have ok:=of_all colOk_all h1 h2 (a:=0) (by exact lA 0x7060042160002 tT h1);unfold colOk at ok;simp only[yN,decide_eq_true_eq,Bool.not_eq_true']at ok;obtain⟨⟨⟨⟨⟨⟨⟨o1,o2⟩,_⟩,_⟩,_⟩,_⟩,_⟩,o8⟩:=ok;refine⟨by exact lA 0x73654020002 tT,o1,p2p N,o2,?_⟩;refine⟨nb rfl,?_⟩;show wpSts (Y.E (d-1)) (.cons _ _) [some v,some (.int l),some (.int N),some (.int ((2:Int)^((2:Int)^N).toNat-1)),none,none,none] S (retQ Q);rw[pfull];refine⟨_,hv,by rw[zA];exact lw hc rfl,?_⟩;refine for_keep cV cs (fun done=>Fol (fun L x4 x5 x6=>[some v,some (.int l),some (.int N),some (.int L),x4,x5,x6]) N fun i=>done.all (satC i)) hv (.mk (fullN N) none none none fun i hi=>?_) ?_ ?_
  .rw[List.all_nil];unfold fullN;rw[Nat.testBit_two_pow_sub_one];exact decide_eq_true hi
  . intro done c todo μ K hcs q_r hK;obtain⟨L,x4,x5,x6,hL⟩:=q_r;have hcm:=hcc c (hcs▸List.mem_append_right _ (zF ..));refine⟨nb rfl,?_⟩;refine⟨nb rfl,?_⟩;refine⟨_,rfl,by rw[zA];exact lw hcm.1 rfl,?_⟩;refine for_keep Val.int c (fun d1=>Fol (fun M x6 _ _=>[some v,some (.int l),some (.int N),some (.int L),some (cV c),some (.int M),x6]) N fun i=>d1.any (satL i)) rfl (.mk 0 x6 none none fun i hi=>Nat.zero_testBit i) ?_ ?_
    .intro d1 y t1 μ K' hc1 q_r hK';obtain⟨M,x6,x7,x8,hM⟩:=q_r;have hy:=hcm.2 y (hc1▸List.mem_append_right _ (zF ..));refine⟨nb rfl,?_⟩;refine s_column Y (d:=d-1) (dd hd rfl) h1 h2 hy.1 hy.2 ?_;refine⟨M,colN N y,rfl,rfl,?_⟩;refine⟨nb rfl,?_⟩;refine hK' _ (.mk (M|||colN N y) (some (.int y)) none none fun i hi=>?_);rw[Nat.testBit_or,hM i hi,(col_bit h1 h2 hy.1 hy.2).1 i hi,List.any_append];simp
    .intro μ q_r;obtain⟨M,x6,x7,x8,hM⟩:=q_r;refine⟨L,M,rfl,rfl,?_⟩;refine⟨nb rfl,?_⟩;refine hK _ (.mk (L&&&M) _ _ _ fun i hi=>?_);rw[Nat.testBit_and,hL i hi,hM i hi,List.all_append];simp[satC]
  . intro μ q_r;obtain⟨L,x4,x5,x6,hL⟩:=q_r;refine s_column Y (d:=d-1) (l:=-l) (dd hd rfl) h1 h2 (by rw[Int.natAbs_neg];exact hl) (by rw[Int.natAbs_neg];exact hl2) ?_;refine⟨L,colN N (-l),rfl,rfl,?_⟩;have cb:=col_bit (l:=-l) h1 h2 (by rw[Int.natAbs_neg];exact hl) (by rw[Int.natAbs_neg];exact hl2);have z:L&&&colN N (-l)=0:=by
      refine Nat.eq_of_testBit_eq fun i=>?_;rw[Nat.testBit_and,Nat.zero_testBit];by_cases hi:i<2^N
      .rw[hL i hi,cb.1 i hi];cases hall:cs.all (satC i)with|false=>rfl|true=>
          have :=hs i (yL.mp hall);unfold satL at this⊢;rw[yG]at this;rw[Int.natAbs_neg,this,Bool.true_and];by_cases c0:0<l;.rw[decide_eq_true c0,yR (by exact fun e=>lZ 0x746440201024601028080650202 tT c0 e)];rfl
          .rw[yR c0,decide_eq_true (by exact lY 0x7564402015402000600124644020102 tT hl (zT (lZ 0x7360201360201 tT (Int.not_lt.mp c0))))];rfl
      .rw[Nat.testBit_lt_two_pow (Nat.lt_of_lt_of_le cb.2 (Nat.pow_le_pow_right (by decide) (Nat.le_of_not_lt hi))),Bool.and_false]
    rw[z];exact r_eq true rfl q
def Opp(A:Int->Bool):Prop:=∀x,x≠0->A (-x)=!A x
structure PsOk(N:Nat)(ps:List PS)(w:Nat->Nat):Prop where
 pr:∀(s:Nat)(st:PS),ps[s]?=some st->∀y∈st.pr,∃m:Nat,y=m/\m<ps.length
 w:∀(s:Nat)(st:PS),ps[s]?=some st->1+(st.pr.map fun y=>w y.toNat).sum<=w s
 snd:∀(s:Nat)(st:PS),ps[s]?=some st->(∃c n,st=.inp c n)\/∀A,Opp A->(∀y∈st.pr,∀st':PS,ps[y.toNat]?=some st'->st'.cl.any A=true)->st.cl.any A=true
 cl:∀(s:Nat)(st:PS),ps[s]?=some st->st.cl.length<=3/\∀x∈st.cl,1<=x.natAbs/\x.natAbs<=N
def FrW(S S':AS):Prop:=∀t,(match t with|.law i=>i<10|_=>True)->S'.H t=S.H t
theorem FrW.refl:FrW S S:=fun _ _=>rfl
theorem FrW.put(a:FrW S S')(h:10<=i):FrW S (S'.put (.law i) v o):=fun t ht=>(put_t (by rintro rfl;simp at ht;exact lA 0x716a2000600a28080650202 tT h ht)).trans (a t ht)
theorem FrW.alloc(a:FrW S S')(h:10<=i):FrW S (S'.alloc (.law i) o):=fun t ht=>(alloc_t (by rintro rfl;simp at ht;exact lA 0x716a2000600a28080650202 tT h ht)).trans (a t ht)
theorem FrW.has(a:FrW S S')(h:HasX Z S k g p j):HasX Z S' k g p j:=fun x o n e=>(a (.core k x) trivial).trans (h x o n e)
noncomputable def kT(c:List Int):List Int×Val:=(c,.bool true)
theorem intsOf_iL:∀c:List Int,intsOf (iL c)=some c:=by
 intro v;induction v with
 |nil=>
  exact rfl|cons a r ih=>
  show(intsOf (iL r)).map _=_;rw[ih];rfl
noncomputable def addF(fs:List (List Int))(c:List Int):List (List Int):=if c∈fs then fs else fs++[c]
theorem putT_kT(fs:List (List Int))(c:List Int):putT (fs.map kT) c (.bool true)=(addF fs c).map kT:=by
 unfold putT addF;have e:(fs.map kT).any (fun p=>decide (p.1=c))=decide (c∈fs):=by
  rw[List.any_map,Bool.eq_iff_iff,List.any_eq_true,decide_eq_true_eq];exact⟨fun⟨x,hx,h⟩=>by have h:x=c:=zW h;exact h▸hx,fun h=>⟨c,h,decide_eq_true rfl⟩⟩
 rw[e];by_cases c0:c∈fs
 .rw[zU (decide_eq_true c0),zU c0,List.map_map];refine List.map_congr_left fun x _=>?_;show(if x=c then(x,Val.bool true)else(x,Val.bool true))=_;split<;>rfl
 .rw[zN (by simpa using c0),zN c0,zV];rfl
theorem addF_mem{fs:List (List Int)}{x:List Int}:x∈addF fs c↔x∈fs\/x=c:=by
 unfold addF;split;.exact⟨.inl,fun h=>h.elim id fun h=>h▸by assumption⟩
 .simp
theorem addF_len(fs:List (List Int))(c:List Int):(addF fs c).length<=fs.length+1:=by
 unfold addF;split;.exact Nat.le_succ _
 .rw[zJ];exact yO _
theorem r_seq{a b:Str}(r:Bool)(h:(a==b)=r)(q:Q (.bool r) S):eqOp false (.str a) (.str b) S Q:=.str rfl rfl (by rw[h,Bool.xor_false];exact q)
theorem len_le_sum:∀ls:List Nat,(∀s∈ls,1<=w s)->ls.length<=(ls.map w).sum:=by
 intro v;induction v with
 |nil=>
  intro _;exact yO _|cons a r ih=>
  intro h;have :=ih fun s hs=>h s (zI _ hs);have :=h a (zF ..);rw[List.map_cons,List.sum_cons,List.length_cons];lia
theorem rested_loop(hd:2<=d)(ok:PsOk N p.ps w)(hps:p.ps.length<=900)(h:HasG S0 k g p j){goal:List Int}{v10:Nat}{Q:SQ}(q:∀(S':AS)(fs:List (List Int))(x3 x4 x5 x6 x7:Option Val),FrW S0 S'->S'.H (.law 10)=some (v10,.dictT (fs.map kT))->fs.length<=400->(∀c∈fs,∃(s:Nat)(st:PS),p.ps[s]?=some st/\st.cl=c)->(∀A,Opp A->(∀c∈fs,c.any A=true)->goal.any A=true)->Q .next [some (lo k g .proof),x1,some (.loc (.law 10) v10),x3,x4,x5,x6,x7] S'):∀(n:Nat)(ls:List Nat)(fs:List (List Int))(S1:AS)(vl:Nat)(x4 x5 x6 x7:Option Val),(ls.map w).sum<n->(∀s∈ls,s<p.ps.length)->S1.H (.law 11)=some (vl,.list (iL (ls.map fun s:Nat=>(s:Int))))->S1.H (.law 10)=some (v10,.dictT (fs.map kT))->FrW S0 S1->fs.length+(ls.map w).sum<=400->(∀c∈fs,∃(s:Nat)(st:PS),p.ps[s]?=some st/\st.cl=c)->(∀A,Opp A->(∀c∈fs,c.any A=true)->(∀s∈ls,∀st:PS,p.ps[s]?=some st->st.cl.any A=true)->goal.any A=true)->whO (wpB (Y.E (d-1)) (.cmp .ne (.lc 3) (.lst .nil))) (wpSts (Y.E (d-1)) (match body_rested with|.cons _ (.cons (.whl _ b) _)=>b|_=>.nil)) n [some (lo k g .proof),x1,some (.loc (.law 10) v10),some (.loc (.law 11) vl),x4,x5,x6,x7] S1 Q:=by
 have w1:∀s,s<p.ps.length->1<=w s:=fun s hs=>zE (Nat.le_add_right _ _) (ok.w s _ (zH hs));intro n;induction n with|zero=>intro ls fs S1 vl x4 x5 x6 x7 hn;exact absurd hn (Nat.not_lt_zero _)|succ n ih=>
    intro ls fs S1 vl x4 x5 x6 x7 hn hls h11 h10 F hlen hfs hent;refine whO_step fun T tf tt=>?_;refine r_newL (.law 12) (yA _) ?_;have F1:=F.alloc (i:=12) (by decide) (o:=.list (iL []));have h11':(S1.alloc (.law 12) (.list (iL []))).H (.law 11)=_:=(alloc_t (nD rfl)).trans h11;have h10':(S1.alloc (.law 12) (.list (iL []))).H (.law 10)=_:=(alloc_t (nD rfl)).trans h10;have h12:(S1.alloc (.law 12) (.list (iL []))).H (.law 12)=some (S1.n,.list (iL [])):=alloc_eq;show eqOp true (.loc (.law 11) vl) (.loc (.law 12) S1.n) (S1.alloc (.law 12) (.list (iL []))) _;generalize S1.n=n12 at h12⊢;generalize S1.alloc _ _=S2 at F1 h11' h10' h12⊢;refine eqLoc h11' h12 ?_;have snoc:ls=[]\/∃L s,ls=L++[s]:=by
      rcases List.eq_nil_or_concat ls with h|⟨L,s,h⟩;.exact .inl h
      .exact .inr ⟨L,s,by rw[h,List.concat_eq_append]⟩
    clear h11;rcases snoc with rfl|⟨L,s,rfl⟩;.refine tf _ ?_;exact q _ fs _ _ _ _ _ F1 h10' (by exact lB 0x7060393120410000603931200 tT hlen) hfs fun A hA hc=>hent A hA hc nofun
    . have hne:decide ((L++[s]).map (fun s:Nat=>(s:Int))=[])=false:=by simp
      rw[hne];refine tt _ fun K kn _ _ _=>?_;have hs:=hls s (by simp);have hL:∀s∈L,s<p.ps.length:=fun s hs=>hls s (yP _ hs);have hlL:L.length<=400:=by
        have :=len_le_sum L fun s hs=>w1 s (hL s hs);rw[zV,List.sum_append]at hlen;exact lD 0x70620000603931204043020100603931200 tT hlen this
      obtain⟨st,hst⟩:∃st,p.ps[s]?=some st:=⟨_,zH hs⟩;have H2:=F1.has h;refine getP H2 id (a:=.steps) rfl ?_;have hpop:∀{K:VQ},K (.int s) (S2.put (.law 11) vl (.list (iL (L.map fun s:Nat=>(s:Int)))))->popFrom (.loc (.law 11) vl) S2 K:=fun{K}hK=>by
        refine .mk rfl h11' (by simp;exact lA 0x706039312000673e33200 tT hlL) (x:=.int s) ?_ ?_;.rw[iL,zV,zV];exact List.getLast?_concat
        .rw[iL,zV,zV,List.map_cons,List.map_cons,List.map_nil,List.map_nil,List.dropLast_concat];exact hK
      refine hpop ?_;have F3:=F1.put (i:=11) (v:=vl) (by decide) (o:=.list (iL (L.map fun s:Nat=>(s:Int))));have h113:(S2.put (.law 11) vl (.list (iL (L.map fun s:Nat=>(s:Int))))).H (.law 11)=_:=put_eq;have h103:(S2.put (.law 11) vl (.list (iL (L.map fun s:Nat=>(s:Int))))).H (.law 10)=_:=(put_t (nD rfl)).trans h10';generalize S2.put _ _ _=S3 at F3 h113 h103⊢;refine get_val ((F3.has h).at .psteps rfl id) (by rw[zA];exact lw hps rfl) rfl (y:=st.val) (by rw[zX,hst];rfl) ?_;have hw:=ok.w s st hst;rw[zV,List.sum_append,List.map_singleton,List.sum_singleton]at hlen hn;have key:∀(fs':List (List Int))(S4:AS)(vr vc vn:Val),S4.H (.law 11)=some (vl,.list (iL (L.map fun s:Nat=>(s:Int))))->S4.H (.law 10)=some (v10,.dictT (fs'.map kT))->FrW S0 S4->fs'.length<=fs.length+1->(∀c∈fs',∃(s:Nat)(st:PS),p.ps[s]?=some st/\st.cl=c)->(∀c∈fs,c∈fs')->(∀A,Opp A->(∀c∈fs',c.any A=true)->(∀y∈st.pr,∀st',p.ps[y.toNat]?=some st'->st'.cl.any A=true)->st.cl.any A=true)->wpSts (Y.E (d-1)) (.cons (.asg (.nm 3) (.bin .add (.lc 3) (.toList (.lc 6)))) .nil) [some (lo k g .proof),x1,some (.loc (.law 10) v10),some (.loc (.law 11) vl),some vr,some vc,some (.tup (iL st.pr)),some vn] S4 K:=by
        intro fs' S4 vr vc vn h11 h10 F4 hl' hfs' hsub hstp;clear h11' hs hpop;obtain⟨prn,hprn⟩:∃prn:List Nat,st.pr=prn.map fun s:Nat=>(s:Int):=by
          have :∀l:List Int,(∀y∈l,∃m:Nat,y=m)->∃prn:List Nat,l=prn.map fun s:Nat=>(s:Int):=fun l=>by
            induction l with|nil=>exact fun _=>⟨[],rfl⟩|cons a r ih=>
              intro hh;obtain⟨m,rfl⟩:=hh a (zF ..);obtain⟨prn,e⟩:=ih fun y hy=>hh y (zI _ hy);exact⟨m::prn,by rw[List.map_cons,<-e]⟩
          exact this _ fun y hy=>let⟨m,e,_⟩:=ok.pr s st hst y hy;⟨m,e⟩
        have hprl:∀m∈prn,m<p.ps.length:=fun m hm=>by
          refine xea (ok.pr s st hst m (by rw[hprn];exact List.mem_map_of_mem hm)) fun m' e hlt=>?_;rw[Int.ofNat_inj.mp e];exact hlt
        have hsum:(st.pr.map fun y=>w y.toNat).sum=(prn.map w).sum:=by
          rw[hprn,List.map_map];rfl
        rw[hsum]at hw;have hpl:prn.length<=400:=by
          have :=len_le_sum prn fun s hs=>w1 s (hprl s hs);exact lE 0x706400006300440120603931204043020100603931200 tT hlen hw this
        rw[hprn];refine r_newL (.law 12) (by rw[zA,zA];exact lw hpl rfl) ?_;refine r_add (t:=.law 11) (u:=.law 12) ((alloc_t (nD rfl)).trans h11) alloc_eq (by simp only[zA];exact lB 0x7060393121006039312000683e332041000 tT hlL hpl) (.law 11) ?_;refine⟨nb rfl,?_⟩;have e:iL (L.map fun s:Nat=>(s:Int))++iL (prn.map fun s:Nat=>(s:Int))=iL ((L++prn).map fun s:Nat=>(s:Int)):=by rw[iL,iL,iL,zV,zV]
        rw[e];refine kn _ _ (ih (L++prn) fs' _ _ _ _ _ _ (by rw[zV,List.sum_append];exact lD 0x70630041012160412200430001620041000 tT hn hw) (fun s hs=>?_) alloc_eq ((alloc_t (nD rfl)).trans ((alloc_t (nD rfl)).trans h10)) ((F4.alloc (by decide)).alloc (by decide)) (by rw[zV,List.sum_append];exact lE 0x706400420120604123000060393120404401030060393120404201000 tT hlen hl' hw) hfs' fun A hA hc hl=>?_)
        . rcases yV.mp hs with h|h;.exact hL s h
          .exact hprl s h
        . refine hent A hA (fun c hc'=>hc c (hsub c hc')) fun s' hs' st' hst'=>?_;clear hent;rcases yV.mp hs' with h|h;.exact hl s' (yP _ h) st' hst'
          .rw[zD]at h;clear hs';subst h;rw[hst]at hst';cases hst';refine hstp A hA hc fun y hy st' hst'=>?_;rw[hprn]at hy;refine xea (yE.mp hy) fun m hm e_2=>?_;subst e_2;exact hl m (List.mem_append_right _ hm) st' hst'
      have snd:=ok.snd s st hst
      clear hw;cases st with|inp c nn=>
        refine⟨_,rfl,rfl,(by show∀a∈[4,5,6,7],a<8;decide),?_⟩;show wpSts (Y.E (d-1)) (.cons _ _) [some (lo k g .proof),x1,some (.loc (.law 10) v10),some (.loc (.law 11) vl),some (.str "input"),some (.tup (iL c)),some (.tup (iL [])),some (.int nn)] S3 K;refine r_seq true (by decide) ?_;have hset:∀{K:AS->Prop},K (S3.put (.law 10) v10 (.dictT ((addF fs c).map kT)))->itemSet (.loc (.law 10) v10) (.tup (iL c)) (.bool true) S3 K:=fun{K}hK=>by
          exact .dictT rfl rfl h103 (by rw[zA];exact lC 0x70603931204042010000683e33200 tT hlen) (intsOf_iL c) (by rw[putT_kT];exact hK)
        refine hset ?_;refine key (addF fs c) _ _ _ _ ((put_t (nD rfl)).trans h113) put_eq (F3.put (by decide)) (addF_len fs c) (fun x hx=>?_) (fun x hx=>addF_mem.mpr (.inl hx)) fun A hA hc _=>hc c (addF_mem.mpr (.inr rfl));rcases addF_mem.mp hx with h|h;.exact hfs x h
        .exact⟨s,_,hst,h.symm⟩|res c pr vs=>
    refine⟨_,rfl,rfl,(by show∀a∈[4,5,6,7],a<8;decide),?_⟩;show wpSts (Y.E (d-1)) (.cons _ _) [some (lo k g .proof),x1,some (.loc (.law 10) v10),some (.loc (.law 11) vl),some (.str "resolve"),some (.tup (iL c)),some (.tup (iL pr)),some (.tup (iL vs))] S3 K;refine r_seq false (by decide) ?_;refine key fs S3 _ _ _ h113 h103 F3 (Nat.le_succ _) hfs (fun x hx=>hx) fun A hA _ hp=>?_;rcases snd with⟨_,_,e⟩|e;.cases e
    .exact e A hA hp
theorem s_rested(hd:2<=d)(h:HasG S k g p j)(ok:PsOk N p.ps w)(hps:p.ps.length<=900)(hst:p.ps[s]?=some st)(hw:w s<=400)(q:∀(S':AS)(t:Tag)(v:Nat)(fs:List (List Int)),FrW S S'->S'.seqOf (.loc t v)=some (fs.map cV)->fs.length<=400->(∀c∈fs,c.length<=3/\∀x∈c,1<=x.natAbs/\x.natAbs<=N)->(∀A,Opp A->(∀c∈fs,c.any A=true)->st.cl.any A=true)->Q (.loc t v) S'):Y.C d .rested [lo k g .proof,.int s] S Q:=by
  refine Y.run 6 (yU hd) (by decide) rfl ?_;refine⟨.law 10,.T,?_⟩;refine r_newL (.law 11) (nb rfl) ?_;refine⟨nb rfl,?_⟩;refine⟨_,rfl,rfl,(by show∀a∈[2,3],a<8;decide),?_⟩;have F1:FrW S ((S.alloc (.law 10) DK.T.obj).alloc (.law 11) (.list [.int s])):=(FrW.refl.alloc (by decide)).alloc (by decide);have h10:((S.alloc (.law 10) DK.T.obj).alloc (.law 11) (.list [.int s])).H (.law 10)=some (S.n,.dictT (([]:List (List Int)).map kT)):=(alloc_t (nD rfl)).trans alloc_eq;refine⟨w s+1,rested_loop Y hd ok hps h (goal:=st.cl) (fun S' fs x3 x4 x5 x6 x7 F h10 hl hfs hent=>?_) (w s+1) [s] [] _ _ none none none none (by simp) (fun s' hs'=>?_) alloc_eq h10 F1 (by simp;exact lA 0x706039312000603931200 tT hw) nofun fun A _ _ hl=>hl s (zD.mpr rfl) st hst⟩
  . have hto:∀{K:VQ},newL (fs.map cV) S' K->wpX (Y.E (d-1)) (.toList (.lc 2)) [some (lo k g .proof),some (.int s),some (.loc (.law 10) S.n),x3,x4,x5,x6,x7] S' K:=fun{K}hK=>by
      refine toLT_rule (fun Q q=>lc_rule rfl q) h10 ?_;rw[List.map_map];exact hK
    refine hto (r_newL (.law 12) (by rw[zA];exact lw hl rfl) ?_);refine q _ _ _ fs (F.alloc (by decide)) (seqOf_loc alloc_eq) hl (fun c hc=>?_) hent;refine xe2a (hfs c hc) fun s' st' hs' e_3=>?_;clear hc;subst e_3;exact ok.cl s' st' hs'
  .rw[zD]at hs';clear hw F1 h10;subst hs';exact idx_lt hst
structure CX(tr:List Int)(c:List Int):Prop where
 da:DA c
 len:c.length<=3
 z:∀x∈c,x≠0
 b:∀x∈c,x.natAbs<=tr.length+1
 t:∃x∈c,x∈tr
theorem ClOk.cs(h:ClOk tr c):CX tr c:=⟨h.sa.da,h.len,h.z,h.b,h.t⟩
theorem CX.perm(h:CX tr c)(q:c.Perm c'):CX tr c':=⟨h.da.perm q,q.length_eq▸h.len,fun x hx=>h.z x (q.mem_iff.mpr hx),fun x hx=>h.b x (q.mem_iff.mpr hx),let⟨x,hx,ht⟩:=h.t;⟨x,q.mem_iff.mp hx,ht⟩⟩
structure I0(tr:List Int)(p:P):Prop where
 ok:TrOk tr
 n5:tr.length<=5
 st:p.st=[]
 la:p.asg.length=tr.length+1+1
 lr:p.rea.length=tr.length+1+1
 lw:p.ws.length=2*(tr.length+1)+2
 sub:∀l∈p.tr,l∈tr
 nd:p.tr.Nodup
 va:∀v:Nat,v<=tr.length+1->p.asg.getD v 0=if(v:Int)∈p.tr then 1 else if-(v:Int)∈p.tr then-1 else 0
 cl:∀(n:Nat)c,p.cl[n]?=some c->CX tr c
 rs:∀(i:Nat)l,p.tr[i]?=some l->∃(n:Nat)(c:List Int),p.rea[l.natAbs]?=some (n:Int)/\p.cl[n]?=some c/\l∈c/\∀y∈c,y≠l->-y∈p.tr.take i
 rN:p.rea[tr.length+1]?=some (-1)
def Un(p:P):Prop:=∀(n:Nat)c x,p.cl[n]?=some c->c.length=1->x∈c->x∈p.tr
theorem I0.opp(h:I0 tr p)(hl:l∈p.tr):-l∉p.tr:=fun h'=>h.ok.neg (h.sub _ hl) (h.sub _ h')
theorem I0.abs(h:I0 tr p)(hl:l∈p.tr):1<=l.natAbs/\l.natAbs<=tr.length:=h.ok.mem (h.sub _ hl)
theorem I0.v1(h:I0 tr p)(hl:l∈p.tr):pv p.asg l=1:=by
 have ha:=h.abs hl;unfold pv;by_cases c:l>0;.rw[zU c,h.va _ (by exact lB 0x70610000604121000 tT ha.2),zU (by rw[show(l.natAbs:Int)=l by exact lY 0x781805501540200808135540200015601540200 tT Int.le_natAbs (zY (lZ 0x7460102360102 tT c))];exact hl)]
 .rw[zN c,h.va _ (by exact lB 0x70610000604121000 tT ha.2)];rw[zN (by rw[show(l.natAbs:Int)=-l by exact lY 0x7817f5544020154020056440201540200 tT (zT (lZ 0x7360201360201 tT (Int.not_lt.mp c)))];exact h.opp hl),zU (by rw[show-(l.natAbs:Int)=l by exact lY 0x77f815544020154020056014402540200 tT (zT (lZ 0x7360201360201 tT (Int.not_lt.mp c)))];exact hl)];rfl
theorem I0.v2(h:I0 tr p)(hl:-l∈p.tr):pv p.asg l=-1:=by
 have ha:=h.abs hl;unfold pv;by_cases c:l>0;.rw[zU c,h.va _ (by exact lin [_,_,_] [_] 0x77f7f55440244020154022056015402000610200604121000 tT ha.2 (zY (lZ 0x7460102360102 tT c)) (zT (lZ 0x74601023602440201 tT c))),zN (by rw[show(l.natAbs:Int)=l by exact lY 0x781805501540200808135540200015601540200 tT Int.le_natAbs (zY (lZ 0x7460102360102 tT c))];exact fun z=>h.opp z hl),zU (by rw[show-(l.natAbs:Int)=-l by exact lY 0x78081550154020081803554020001564402014402540200 tT Int.le_natAbs (zY (lZ 0x7460102360102 tT c))];exact hl)]
 .rw[zN c,h.va _ (by exact lin [_,_,_] [_] 0x736540220440201564402015402000610200604121000 tT ha.2 (zT (lZ 0x7360201360201 tT (Int.not_lt.mp c))) Int.le_natAbs),zU (by rw[show(l.natAbs:Int)=-l by exact lY 0x7817f5544020154020056440201540200 tT (zT (lZ 0x7360201360201 tT (Int.not_lt.mp c)))];exact hl)]
variable{v2:Nat}
theorem I0.v0(h:I0 tr p)(hb:l.natAbs<=tr.length+1)(h1:l∉p.tr)(h2:-l∉p.tr):pv p.asg l=0:=by
 unfold pv;by_cases c:l>0;.rw[zU c,h.va _ hb,zN (by rw[show(l.natAbs:Int)=l by exact lY 0x781805501540200808135540200015601540200 tT Int.le_natAbs (zY (lZ 0x7460102360102 tT c))];exact h1),zN (by rw[show-(l.natAbs:Int)=-l by exact lY 0x78081550154020081803554020001564402014402540200 tT Int.le_natAbs (zY (lZ 0x7460102360102 tT c))];exact h2)]
 .rw[zN c,h.va _ hb,zN (by rw[show(l.natAbs:Int)=-l by exact lY 0x7817f5544020154020056440201540200 tT (zT (lZ 0x7360201360201 tT (Int.not_lt.mp c)))];exact h2),zN (by rw[show-(l.natAbs:Int)=l by exact lY 0x77f815544020154020056014402540200 tT (zT (lZ 0x7360201360201 tT (Int.not_lt.mp c)))];exact h1)];rfl
theorem I0.f_iff(h:I0 tr p)(hb:l.natAbs<=tr.length+1):pv p.asg l=-1↔-l∈p.tr:=by
  refine⟨fun e=>?_,h.v2⟩;by_cases c:-l∈p.tr;.exact c
  . by_cases c1:l∈p.tr;.rw[h.v1 c1]at e;exact absurd e (by decide)
    .rw[h.v0 hb c1 c]at e;exact absurd e (by decide)
theorem I0.t_iff(h:I0 tr p)(hb:l.natAbs<=tr.length+1):pv p.asg l=1↔l∈p.tr:=by
  refine⟨fun e=>?_,h.v1⟩;by_cases c1:l∈p.tr;.exact c1
  . by_cases c:-l∈p.tr;.rw[h.v2 c]at e;exact absurd e (by decide)
    .rw[h.v0 hb c1 c]at e;exact absurd e (by decide)
variable{l:List Int}
theorem I0.tl(h:I0 tr p):p.tr.length<=tr.length:=nodup_len _ _ h.nd h.sub
theorem I0.enq(h:I0 tr p)(hc:p.cl[n]?=some c)(ha:a∈c)(hat:a∈tr)(hn:a∉p.tr)(ho:∀y∈c,y≠a->-y∈p.tr):I0 tr (enqP p a n):=by
  have hab:=h.ok.mem hat;have hna:-a∉p.tr:=fun z=>h.ok.neg hat (h.sub _ z);refine⟨h.ok,h.n5,h.st,(yD ..).trans h.la,(yD ..).trans h.lr,h.lw,fun l hl=>?_,?_,fun v hv=>?_,h.cl,fun i l hl=>?_,?_⟩
  . clear ha hn ho hab hna;rcases yV.mp (show l∈p.tr++[a]from hl)with hl|hl;.exact h.sub l hl
    .rw[zD]at hl;subst hl;exact hat
  .show(p.tr++[a]).Nodup;exact List.nodup_append.mpr ⟨h.nd,List.pairwise_singleton ..,fun x hx y hy e=>by rw[zD]at hy;subst hy;subst e;exact hn hx⟩
  . show(p.asg.set a.natAbs (sg a)).getD v 0=if(v:Int)∈p.tr++[a]then 1 else if-(v:Int)∈p.tr++[a]then-1 else 0;simp only[yV,zD];rw[zO,List.getElem?_set];by_cases cv:a.natAbs=v
    . clear hv;subst cv;rw[zU rfl,zU (by rw[h.la];exact lB 0x706100016041204121000 tT hab.2)];unfold sg;by_cases c0:a>0;.rw[zU c0,zU (.inr (by exact lY 0x781805501540200808135540200015601540200 tT Int.le_natAbs (zY (lZ 0x7460102360102 tT c0))))];rfl
      . have h1:¬((a.natAbs:Int)∈p.tr\/(a.natAbs:Int)=a):=by
          rintro(z|z);.rw[show(a.natAbs:Int)=-a by exact lY 0x7817f5544020154020056440201540200 tT (zT (lZ 0x7360201360201 tT (Int.not_lt.mp c0)))]at z;exact hna z
          .exact lY 0x756015402003602010600128080650202 tT hab.1 (Int.not_lt.mp c0) z
        rw[zN c0,zN h1,zU (.inr (by exact lY 0x77f815544020154020056014402540200 tT (zT (lZ 0x7360201360201 tT (Int.not_lt.mp c0)))))];rfl
    .rw[zN cv,<-zO,h.va v hv];have e1:((v:Int)∈p.tr\/(v:Int)=a)↔(v:Int)∈p.tr:=⟨fun z=>z.elim id fun z=>by exact False.elim ((Nat.lt_or_gt_of_ne cv).elim (fun a=>lX 0x7160010365402100156015402008080650202 tT z Int.le_natAbs a) fun a=>lX 0x716100056015402107f7f55015402008080650202 tT z (zY (lY 0x75601540200360102 tT z)) a),.inl⟩;have e2:(-(v:Int)∈p.tr\/-(v:Int)=a)↔-(v:Int)∈p.tr:=⟨fun z=>z.elim id fun z=>by exact False.elim ((Nat.lt_or_gt_of_ne cv).elim (fun a=>lX 0x71600107f7f554402015402107f7f550144025402008080650202 tT z (zT (lY 0x77f7f55014402540200360201 tT z)) a) fun a=>lX 0x716100056440201540210560144025402008080650202 tT z (zT (lY 0x77f7f55014402540200360201 tT z)) a),.inl⟩;simp only[e1,e2]
  . have hl:(p.tr++[a])[i]?=some l:=hl;rcases Nat.lt_trichotomy i p.tr.length with q|q|q
    . rw[zZ q]at hl;refine xe2a3 (h.rs i l hl) fun n' c' h1 h2 h3 h4=>?_;have hne:a.natAbs≠l.natAbs:=fun e=>by
        have hlt:=yB hl;obtain⟨i1,hi1,e1⟩:=yI hat;obtain⟨i2,hi2,e2⟩:=yI (h.sub _ hlt);exact hn ((h.ok.inj (zM.mpr ⟨hi1,e1⟩) (zM.mpr ⟨hi2,e2⟩) e).2▸hlt)
      refine⟨n',c',?_,h2,h3,fun y hy hyl=>?_⟩;.show(p.rea.set a.natAbs (n:Int))[l.natAbs]?=_;rw[zK hne];exact h1
      .show-y∈(p.tr++[a]).take i;rw[List.take_append_of_le_length (Nat.le_of_lt q)];exact h4 y hy hyl
    . subst q;rw[List.getElem?_append_right (yO _),Nat.sub_self]at hl;cases hl;refine⟨n,c,?_,hc,ha,fun y hy hya=>?_⟩
      .show(p.rea.set a.natAbs (n:Int))[a.natAbs]?=_;rw[zP (by rw[h.lr];exact lB 0x706100016041204121000 tT hab.2)]
      .show-y∈(p.tr++[a]).take p.tr.length;rw[List.take_left];exact ho y hy hya
    .rw[List.getElem?_append_right (Nat.le_of_lt q),yJ (by simp;exact lC 0x70604100020162010060012 tT q (le_sub_ad _ _))]at hl;cases hl
  .show(p.rea.set a.natAbs (n:Int))[tr.length+1]?=_;rw[zK (by exact fun e=>lB 0x77f7f25041210000610008080650202 tT hab.2 e)];exact h.rN
theorem I0.setCl(h:I0 tr p)(hc:p.cl[n]?=some c)(q:c.Perm c'):I0 tr (p.sCl (p.cl.set n c')):=by
  have key:∀(m:Nat)d,(p.cl.set n c')[m]?=some d->∃d0,p.cl[m]?=some d0/\d0.Perm d:=fun m d hd=>by
    by_cases e:n=m
    .subst e;rw[zP (idx_lt hc)]at hd;cases hd;exact⟨c,hc,q⟩
    .rw[zK e]at hd;exact⟨d,hd,.refl _⟩
  refine⟨h.ok,h.n5,h.st,h.la,h.lr,h.lw,h.sub,h.nd,h.va,fun m d hd=>?_,fun i l hl=>?_,h.rN⟩
  .refine xea (key m d hd) fun d0 h1 h2=>?_;exact(h.cl m d0 h1).perm h2
  . refine xe2a3 (h.rs i l hl) fun m d h1 h2 h3 h4=>?_;by_cases e:n=m
    .subst e;rw[hc]at h2;cases h2;exact⟨n,c',h1,zP (idx_lt hc),q.mem_iff.mp h3,fun y hy=>h4 y (q.mem_iff.mpr hy)⟩
    .exact⟨m,d,h1,(zK e).trans h2,h3,h4⟩
theorem Un.setCl(h:Un p)(hc:p.cl[n]?=some c)(q:c.Perm c'):Un (p.sCl (p.cl.set n c')):=fun m d x hd hl hx=>by
 have hd:(p.cl.set n c')[m]?=some d:=hd;by_cases e:n=m
 .subst e;rw[zP (idx_lt hc)]at hd;cases hd;exact h n c x hc (q.length_eq.trans hl) (q.mem_iff.mpr hx)
 .rw[zK e]at hd;exact h m d x hd hl hx
def wat(c:List Int)(x:Int):Prop:=c[0]?=some x\/c[1]?=some x
theorem wat_mem(h:wat c x):x∈c:=h.elim yB yB
theorem wat_cons{b:Int}{r:List Int}:wat (a::b::r) x↔x=a\/x=b:=by
 unfold wat;simp[eq_comm]
theorem plN_inj{y:Int}(hx:x≠0)(hy:y≠0)(h:plN x=plN y):x=y:=by
  unfold plN at h;by_cases a:x>0
  . rw[zU a]at h;by_cases b:y>0;.rw[zU b]at h;have :=Nat.eq_of_mul_eq_mul_left (by decide) h;rw[<-zY (Int.le_of_lt a),this,zY (Int.le_of_lt b)]
    .rw[zN b]at h;exact absurd ((Nat.mul_mod_right 2 _).symm.trans ((zG (.%2) h).trans (Nat.mul_add_mod 2 _ 1))) Nat.zero_ne_one
  . rw[zN a]at h;by_cases b:y>0;.rw[zU b]at h;exact absurd ((Nat.mul_mod_right 2 _).symm.trans ((zG (.%2) h.symm).trans (Nat.mul_add_mod 2 _ 1))) Nat.zero_ne_one
    .rw[zN b]at h;have e1:=zT (Int.not_lt.mp a);rw[Nat.eq_of_mul_eq_mul_left (by decide) (Nat.succ.inj h),zT (Int.not_lt.mp b)]at e1;exact(Int.neg_inj.mp e1).symm
structure VI(gone:Int)(h:Nat)(W0:List Int)(rest:List Nat)(p:P)(kept:List Int):Prop where
 ws0:p.ws[plN gone]?=some W0
 v1:∀q w n,q≠plN gone->p.ws[q]?=some w->n∈w->∃(m:Nat)(c:List Int)(x:Int),n=m/\p.cl[m]?=some c/\2<=c.length/\wat c x/\plN x=q
 v2:∀(m:Nat)(c:List Int)(x:Int),p.cl[m]?=some c->2<=c.length->wat c x->(x≠gone->∃w,p.ws[plN x]?=some w/\(m:Int)∈w)/\(x=gone->m∈rest\/(m:Int)∈kept)
 v3:∀q w,q≠plN gone->p.ws[q]?=some w->w.Nodup
 vk:kept.Nodup
 vr:rest.Nodup
 vd:∀m∈rest,(m:Int)∉kept
 vk2:∀n∈kept,∃(m:Nat)(c:List Int),n=m/\p.cl[m]?=some c/\2<=c.length/\wat c gone
 vr2:∀m∈rest,∃c,p.cl[m]?=some c/\2<=c.length/\wat c gone
 v4:∀(m:Nat)(c:List Int)(x y:Int),p.cl[m]?=some c->2<=c.length->wat c x->wat c y->x≠y->-x∈p.tr.take (if m∈rest then h else h+1)->y∈p.tr
structure Kp(p p1:P):Prop where
 sp:p1.sp=p.sp
 ps:p1.ps=p.ps
 us:p1.us=p.us
 rt:p1.rt=p.rt
 hP:p1.hP=p.hP
 len:p1.cl.length=p.cl.length
 perm:∀(n:Nat)c,p1.cl[n]?=some c->∃c0,p.cl[n]?=some c0/\c0.Perm c
 pre:∃t,p1.tr=p.tr++t
theorem Kp.refl:Kp p p:=⟨rfl,rfl,rfl,rfl,rfl,rfl,fun n c h=>⟨c,h,.refl _⟩,[],by simp⟩
theorem Kp.trans{p2:P}(a:Kp p p1)(b:Kp p1 p2):Kp p p2:=⟨b.sp.trans a.sp,b.ps.trans a.ps,b.us.trans a.us,b.rt.trans a.rt,b.hP.trans a.hP,b.len.trans a.len,fun n c h=>let⟨c1,h1,q1⟩:=b.perm n c h;let⟨c0,h0,q0⟩:=a.perm n c1 h1;⟨c0,h0,q0.trans q1⟩,let⟨t,e⟩:=a.pre;let⟨t',e'⟩:=b.pre;⟨t++t',by rw[e',e,List.append_assoc]⟩⟩
theorem Kp.setCl(hc:p.cl[n]?=some c)(q:c.Perm c'):Kp p (p.sCl (p.cl.set n c')):=by
 refine⟨rfl,rfl,rfl,rfl,rfl,yD ..,fun m d hd=>?_,[],by show p.tr=_;simp⟩;have hd:(p.cl.set n c')[m]?=some d:=hd;by_cases e:n=m
 .subst e;rw[zP (idx_lt hc)]at hd;cases hd;exact⟨c,hc,q⟩
 .rw[zK e]at hd;exact⟨d,hd,.refl _⟩
theorem Kp.enq:Kp p (enqP p a n):=⟨rfl,rfl,rfl,rfl,rfl,rfl,fun n c h=>⟨c,h,.refl _⟩,[a],rfl⟩
theorem take_mono(hn:n<=l.length)(h:x∈(l++t).take n):x∈l.take n:=by rw[List.take_append_of_le_length hn]at h;exact h
theorem VI.norm{rest:List Nat}(v:VI gone h W0 rest p kept)(hc:p.cl[m]?=some c)(hl:c'.length=c.length)(hw:∀x,wat c' x↔wat c x):VI gone h W0 rest (p.sCl (p.cl.set m c')) kept:=by
 have old:∀(n:Nat)d,(p.cl.set m c')[n]?=some d->∃d0,p.cl[n]?=some d0/\d.length=d0.length/\∀x,wat d x↔wat d0 x:=fun n d hd=>by
  by_cases e:m=n
  .subst e;rw[zP (idx_lt hc)]at hd;cases hd;exact⟨c,hc,hl,hw⟩
  .rw[zK e]at hd;exact⟨d,hd,rfl,fun _=>.rfl⟩
 have new:∀(n:Nat)d,p.cl[n]?=some d->∃d1,(p.cl.set m c')[n]?=some d1/\d1.length=d.length/\∀x,wat d1 x↔wat d x:=fun n d hd=>by
  by_cases e:m=n
  .subst e;rw[hc]at hd;cases hd;exact⟨c',zP (idx_lt hc),hl,hw⟩
  .exact⟨d,(zK e).trans hd,rfl,fun _=>.rfl⟩
 refine⟨v.ws0,fun q w n hq hw' hn=>?_,fun n d x hd h2 hx=>?_,v.v3,v.vk,v.vr,v.vd,fun n hn=>?_,fun n hn=>?_,fun n d x y hd h2 hx hy hne hin=>?_⟩
 .refine xe3a4 (v.v1 q w n hq hw' hn) fun k d x e hd h2 hx hp=>?_;refine xea2 (new k d hd) fun d1 h1 hl1 hw1=>?_;exact⟨k,d1,x,e,h1,hl1▸h2,(hw1 x).mpr hx,hp⟩
 .refine xea2 (old n d hd) fun d0 h0 hl0 hw0=>?_;exact v.v2 n d0 x h0 (hl0▸h2) ((hw0 x).mp hx)
 .refine xe2a3 (v.vk2 n hn) fun k d e hd h2 hx=>?_;refine xea2 (new k d hd) fun d1 h1 hl1 hw1=>?_;exact⟨k,d1,e,h1,hl1▸h2,(hw1 _).mpr hx⟩
 .refine xea2 (v.vr2 n hn) fun d hd h2 hx=>?_;refine xea2 (new n d hd) fun d1 h1 hl1 hw1=>?_;exact⟨d1,h1,hl1▸h2,(hw1 _).mpr hx⟩
 .refine xea2 (old n d hd) fun d0 h0 hl0 hw0=>?_;exact v.v4 n d0 x y h0 (hl0▸h2) ((hw0 x).mp hx) ((hw0 y).mp hy) hne hin
theorem VI.keep{rest:List Nat}{r:List Int}(v:VI gone h W0 (m::rest) p kept)(hc:p.cl[m]?=some (a::gone::r))(e1:p1.cl=p.cl)(e2:p1.ws=p.ws)(e3:p1.tr=p.tr++t)(hh:h+1<=p.tr.length)(ha:a∈p1.tr)(hna:-a∉p.tr):VI gone h W0 rest p1 (kept++[(m:Int)]):=by
  have hvr:=List.nodup_cons.mp v.vr;have hmk:(m:Int)∉kept:=v.vd m (zF ..);refine⟨e2▸v.ws0,fun q w n hq hw' hn=>?_,fun n d x hd h2 hx=>?_,fun q w hq hw=>v.v3 q w hq (e2▸hw),?_,hvr.2,fun n hn hk=>?_,fun n hn=>?_,fun n hn=>?_,fun n d x y hd h2 hx hy hne hin=>?_⟩;.rw[e1];exact v.v1 q w n hq (e2▸hw') hn
  . rw[e1]at hd;rw[e2];clear hc hvr hmk;obtain⟨h3,h4⟩:=v.v2 n d x hd h2 hx;refine⟨h3,fun e=>?_⟩;clear v;rcases h4 e with z|z
    . clear h4;rcases zL.mp z with rfl|z;.exact .inr (by simp)
      .exact .inl z
    .exact .inr (yP _ z)
  .exact List.nodup_append.mpr ⟨v.vk,List.pairwise_singleton ..,fun x hx y hy e=>by rw[zD]at hy;subst hy;subst e;exact hmk hx⟩
  . rcases yV.mp hk with hk|hk;.exact v.vd n (zI _ hn) hk
    .rw[zD]at hk;rw[Int.ofNat_inj.mp hk]at hn;exact hvr.1 hn
  . rw[e1];rcases yV.mp hn with hn|hn;.exact v.vk2 n hn
    .rw[zD]at hn;exact⟨m,_,hn,hc,by simp,wat_cons.mpr (.inr rfl)⟩
  .rw[e1];exact v.vr2 n (zI _ hn)
  . rw[e1]at hd;by_cases e:n=m
    . clear v hmk h2;subst e;rw[hc]at hd;cases hd;rw[zN hvr.1,e3]at hin;have hin:=List.mem_of_mem_take (take_mono hh hin);rcases wat_cons.mp hx with rfl|rfl;.exact absurd hin hna
      . rcases wat_cons.mp hy with rfl|rfl;.exact ha
        .exact absurd rfl hne
    . have :(if n∈m::rest then h else h+1)=if n∈rest then h else h+1:=by
        simp only[zL,e,false_or]
      rw[e3]at hin⊢;refine yP _ (v.v4 n d x y hd h2 hx hy hne ?_);rw[this];exact take_mono (by split<;>omega) hin
theorem VI.move{rest:List Nat}{b:Int}(i0:I0 tr p)(v:VI gone h W0 (m::rest) p kept)(hc:p.cl[m]?=some [a,gone,b])(hg:p.tr[h]?=some (-gone))(hb:-b∉p.tr):VI gone h W0 rest ((p.sCl (p.cl.set m [a,b,gone])).sWs (addW p.ws b m)) kept:=by
  have hvr:=List.nodup_cons.mp v.vr;have cx:=i0.cl m _ hc;have hz:∀x∈[a,gone,b],x≠0:=cx.z;have da:=cx.da;unfold DA at da;simp only[yT,zL,List.not_mem_nil,or_false,forall_eq_or_imp,forall_eq]at da;have hgt:-gone∈p.tr:=yB hg;have hgn:gone∉p.tr:=fun z=>i0.opp z hgt;have hag:a≠gone:=fun e=>da.1.1 (by rw[e]);have hbg:b≠gone:=fun e=>da.2.1 (by rw[e]);have hab:a≠b:=fun e=>da.1.2 (by rw[e]);have pbg:plN b≠plN gone:=fun e=>hbg (plN_inj (hz b (by simp)) (hz gone (by simp)) e);have hbb:=cx.b b (by simp);have pb:plN b<p.ws.length:=i0.lw▸plN_lt hbb;have hm:=idx_lt hc;clear cx hgt hbb;obtain⟨wb,hwb⟩:∃wb,p.ws[plN b]?=some wb:=⟨_,zH pb⟩;have ewb:p.ws.getD (plN b) []=wb:=by rw[zO,hwb];rfl
  have hmb:(m:Int)∉wb:=fun z=>by
    refine xe3a4 (v.v1 _ _ _ pbg hwb z) fun k d x e hd h2 hx hp=>?_;rw[<-Int.ofNat_inj.mp e,hc]at hd;clear hb pbg pb hwb ewb h2;cases hd;have :x=b:=plN_inj (hz x (wat_mem hx)) (hz b (by simp)) hp;subst this;rcases wat_cons.mp hx with e|e;.exact hab e.symm
    .exact hbg e
  have wset:∀q w,(addW p.ws b m)[q]?=some w->(q=plN b/\w=wb++[(m:Int)])\/(q≠plN b/\p.ws[q]?=some w):=fun q w hw=>by
    unfold addW at hw;by_cases e:plN b=q
    .subst e;rw[zP pb]at hw;cases hw;exact .inl ⟨rfl,by rw[ewb]⟩
    .rw[zK e]at hw;exact .inr ⟨Ne.symm e,hw⟩
  have wnew:∀q w,p.ws[q]?=some w->∃w',(addW p.ws b m)[q]?=some w'/\∀n∈w,n∈w':=fun q w hw=>by
    unfold addW;by_cases e:plN b=q
    .subst e;refine⟨_,zP pb,fun n hn=>?_⟩;rw[ewb];rw[hwb]at hw;cases hw;exact yP _ hn
    .exact⟨w,(zK e).trans hw,fun _ h=>h⟩
  have hcm:(p.cl.set m [a,b,gone])[m]?=some [a,b,gone]:=zP hm;refine⟨?_,fun q w n hq hw' hn=>?_,fun n d x hd h2 hx=>?_,fun q w hq hw=>?_,v.vk,hvr.2,fun n hn=>v.vd n (zI _ hn),fun n hn=>?_,fun n hn=>?_,fun n d x y hd h2 hx hy hne hin=>?_⟩;.show(addW p.ws b m)[plN gone]?=_;unfold addW;rw[zK pbg];exact v.ws0
  . clear hg hz hgn hag hbg hab pbg;rcases wset q w hw' with⟨rfl,rfl⟩|⟨hqb,hw'⟩
    . rcases yV.mp hn with hn|hn
      .refine xe3a4 (v.v1 _ wb n hq hwb hn) fun k d x e hd h2 hx hp=>?_;have hkm:m≠k:=fun z=>hmb (by rw[z,<-e];exact hn);exact⟨k,d,x,e,(zK hkm).trans hd,h2,hx,hp⟩
      .rw[zD]at hn;exact⟨m,_,b,hn,hcm,by simp,wat_cons.mpr (.inr rfl),rfl⟩
    . refine xe3a4 (v.v1 q w n hq hw' hn) fun k d x e hd h2 hx hp=>?_;by_cases hkm:m=k
      . clear v h2;subst hkm;rw[hc]at hd;cases hd;rcases wat_cons.mp hx with z|z
        .clear hx;subst z;exact⟨m,_,x,e,hcm,by simp,wat_cons.mpr (.inl rfl),hp⟩
        .clear hcm hx;subst z;exact absurd hp.symm hq
      .exact⟨k,d,x,e,(zK hkm).trans hd,h2,hx,hp⟩
  . by_cases hnm:m=n
    . clear hb hz hab pbg hwb ewb wset h2;subst hnm;have hd:(p.cl.set m [a,b,gone])[m]?=some d:=hd;rw[hcm]at hd;cases hd;rcases wat_cons.mp hx with z|z
      .clear hx;subst z;refine⟨fun _=>?_,fun z=>absurd z hag⟩;refine xea ((v.v2 m _ x hc (by simp) (wat_cons.mpr (.inl rfl))).1 hag) fun w hw hmw=>?_;refine xea (wnew _ w hw) fun w' h1 h2=>?_;exact⟨w',h1,h2 _ hmw⟩
      .clear hc wnew hx;subst z;refine⟨fun _=>⟨_,zP pb,by simp⟩,fun z=>absurd z hbg⟩
    . have hd:(p.cl.set m [a,b,gone])[n]?=some d:=hd;rw[zK hnm]at hd;clear hc hvr hm hmb wset hcm;obtain⟨h3,h4⟩:=v.v2 n d x hd h2 hx;refine⟨fun z=>?_,fun z=>?_⟩
      .refine xea (h3 z) fun w hw hmw=>?_;refine xea (wnew _ w hw) fun w' h1 h2=>?_;exact⟨w',h1,h2 _ hmw⟩
      . clear v wnew;rcases h4 z with z|z
        . clear h4;rcases zL.mp z with rfl|z;.exact absurd rfl hnm
          .exact .inl z
        .exact .inr z
  . rcases wset q w hw with⟨rfl,rfl⟩|⟨hqb,hw'⟩;.exact List.nodup_append.mpr ⟨v.v3 _ _ hq hwb,List.pairwise_singleton ..,fun x hx y hy e=>by rw[zD]at hy;subst hy;subst e;exact hmb hx⟩
    .exact v.v3 q w hq hw'
  .refine xe2a3 (v.vk2 n hn) fun k d e hd h2 hx=>?_;have hkm:m≠k:=fun z=>v.vd m (zF ..) (by rw[z,<-e];exact hn);exact⟨k,d,e,(zK hkm).trans hd,h2,hx⟩
  .refine xea2 (v.vr2 n (zI _ hn)) fun d hd h2 hx=>?_;have hnm:m≠n:=fun z=>hvr.1 (z▸hn);exact⟨d,(zK hnm).trans hd,h2,hx⟩
  . by_cases hnm:m=n
    . clear hz hbg hab pbg pb hwb ewb wset wnew h2 hy;subst hnm;have hd:(p.cl.set m [a,b,gone])[m]?=some d:=hd;rw[hcm]at hd;cases hd;rw[zN hvr.1]at hin;have hin:-x∈p.tr.take (h+1):=hin;rcases wat_cons.mp hx with z|z
      . clear hx;subst z;have hin2:-x∈p.tr.take h++(p.tr[h]?).toList:=by rw[<-List.take_add_one];exact hin
        rw[hg]at hin2;rcases yV.mp hin2 with hin|hin;.have :=v.v4 m _ x gone hc (by simp) (wat_cons.mpr (.inl rfl)) (wat_cons.mpr (.inr rfl)) hag (by rw[zU (zF ..)];exact hin);exact absurd this hgn
        .simp only[Option.toList_some,zD]at hin;exact False.elim ((Int.lt_or_gt_of_ne hag).elim (fun a=>lin [] [_,_] 0x7461101564402114402018080650202 tT hin a) fun a=>lin [] [_,_] 0x74601117f7f554402114402018080650202 tT hin a)
      .clear hc hx;subst z;exact absurd (List.mem_of_mem_take hin) hb
    . have hd:(p.cl.set m [a,b,gone])[n]?=some d:=hd;rw[zK hnm]at hd;refine v.v4 n d x y hd h2 hx hy hne ?_;have :(if n∈m::rest then h else h+1)=if n∈rest then h else h+1:=by
        simp only[zL,Ne.symm hnm,false_or]
      rw[this];exact hin
theorem nat_len{w:List Int}{L:Nat}(h:w.Nodup)(hm:∀n∈w,∃m:Nat,n=m/\m<L):w.length<=L:=by
 have :=nodup_len w ((List.range L).map fun m:Nat=>(m:Int)) h fun x hx=>by
  refine xea (hm x hx) fun m e_1 hlt=>?_;clear hx;subst e_1;exact List.mem_map_of_mem (List.mem_range.mpr hlt)
 rwa[zA,yQ]at this
theorem I0.vsz(i0:I0 tr p)(hc:p.cl.length<=100)(hw:∀w∈p.ws,w.length<=800):VSz (tr.length+1) p:=⟨⟨by have :=i0.n5;exact lA 0x7065200064312041200 tT this,i0.la,i0.lr,by have :=i0.tl;have :=i0.n5;lia,by rw[i0.st];exact yA _⟩,i0.st,i0.lw,hw,by exact lA 0x7064362000603233200 tT hc⟩
theorem VI.wl{rest:List Nat}(v:VI gone h W0 rest p kept)(hW:W0.length<=800)(hc:p.cl.length<=100):∀w∈p.ws,w.length<=800:=fun w hw=>by
  obtain⟨q,hq,e⟩:=yI hw;have hq:p.ws[q]?=some w:=zM.mpr ⟨hq,e⟩;by_cases c:q=plN gone
  .clear hw e;subst c;have :=v.ws0;rw[hq]at this;cases this;exact hW
  . have :=nat_len (L:=p.cl.length) (v.v3 q w c hq) fun n hn=>by
      refine xe3a2 (v.v1 q w n c hq hn) fun m d x e hd _=>?_;exact⟨m,e,idx_lt hd⟩
    exact lB 0x7061000064362100603233200 tT hc this
theorem Un.mono(u:Un p)(k:Kp p p1):Un p1:=fun n c x hc hl hx=>by
 refine xea (k.perm n c hc) fun c0 h0 q=>?_;obtain⟨t,e⟩:=k.pre;rw[e];exact yP _ (u n c0 x h0 (q.length_eq.trans hl) (q.mem_iff.mpr hx))
theorem one_mem{r:List Int}{f:Int->Prop}(hl:r.length<=1)(cm:¬∃x,r=[x]/\f x)(hx:x∈r):¬f x:=by
 cases r with|nil=>exact nomatch hx|cons y q=>cases q with|nil=>cases zD.mp hx;exact fun z=>cm ⟨x,rfl,z⟩|cons u v=>exact absurd hl (by simp)
theorem VI.step{rest:List Nat}(i0:I0 tr p)(un:Un p)(v:VI gone h W0 (m::rest) p kept)(hg:p.tr[h]?=some (-gone)):∃p1 kept1,Turn (tr.length+1) gone m p kept p1 kept1/\I0 tr p1/\Un p1/\VI gone h W0 rest p1 kept1/\Kp p p1/\p1.hd=p.hd:=by
  refine xea2 (v.vr2 m (zF ..)) fun c hc h2 hx=>?_;have cx:=i0.cl m c hc;have hgt:-gone∈p.tr:=yB hg;have hgn:gone∉p.tr:=fun z=>i0.opp z hgt;have hb:∀x∈c,x.natAbs<=tr.length+1:=cx.b;clear hgn;obtain⟨a,r,hn,hp,hw⟩:∃a r,Q40.Internal.norm gone c=a::gone::r/\c.Perm (a::gone::r)/\∀x,wat (a::gone::r) x↔wat c x:=by
    . obtain⟨u,w,r,ec⟩:=two h2;clear v hg hgt;subst ec;by_cases e:u=gone
      .clear hx;subst e;refine⟨w,r,zU rfl,List.Perm.swap ..,fun x=>?_⟩;rw[wat_cons,wat_cons];exact Or.comm
      . have ew:w=gone:=by
          rcases wat_cons.mp hx with z|z;.exact absurd z.symm e
          .exact z.symm
        clear hx;subst ew;exact⟨u,r,zN e,.refl _,fun _=>.rfl⟩
  have hc0:(p.cl.set m (a::gone::r))[m]?=some (a::gone::r):=zP (idx_lt hc);have i00:=i0.setCl hc hp;have un0:=un.setCl hc hp;have v0:=v.norm (c':=a::gone::r) hc hp.length_eq.symm hw;have k0:=Kp.setCl hc hp;have hba:a.natAbs<=tr.length+1:=hb a (hp.mem_iff.mpr (zF ..));have hh:h+1<=p.tr.length:=idx_lt hg;by_cases ca:a∈p.tr
  .refine⟨_,_,Turn.tru hc cx.len hb hn (i0.v1 ca),i00,un0,?_,k0,rfl⟩;exact v0.keep (t:=[]) hc0 rfl rfl (yS _).symm hh ca (i0.opp ca)
  . have hav:pv p.asg a≠1:=fun e=>ca ((i0.t_iff hba).mp e);by_cases cm:∃x,r=[x]/\-x∉p.tr
    . refine xea cm fun x e_1 hxf=>?_;clear hw un0 cm;subst e_1;have hbx:x.natAbs<=tr.length+1:=hb x (hp.mem_iff.mpr (by simp));have hp2:([a,gone,x]:List Int).Perm [a,x,gone]:=List.Perm.cons _ (List.Perm.swap ..);have i1:=i00.setCl hc0 hp2;have k1:=k0.trans (Kp.setCl hc0 hp2);have e:((p.sCl (p.cl.set m [a,gone,x])).sCl ((p.cl.set m [a,gone,x]).set m [a,x,gone]))=p.sCl (p.cl.set m [a,x,gone]):=by
        show p.sCl ((p.cl.set m [a,gone,x]).set m [a,x,gone])=_;rw[List.set_set]
      have v1:=v0.move i00 hc0 hg hxf;change I0 tr ((p.sCl (p.cl.set m [a,gone,x])).sCl ((p.cl.set m [a,gone,x]).set m [a,x,gone]))at i1;change Kp p ((p.sCl (p.cl.set m [a,gone,x])).sCl ((p.cl.set m [a,gone,x]).set m [a,x,gone]))at k1;change VI gone h W0 rest (((p.sCl (p.cl.set m [a,gone,x])).sCl ((p.cl.set m [a,gone,x]).set m [a,x,gone])).sWs (addW p.ws x m)) kept at v1;rw[e]at i1 k1 v1;refine⟨_,_,Turn.mov hc cx.len hb hn hav (fun z=>hxf ((i0.f_iff hbx).mp z)),⟨i1.ok,i1.n5,i1.st,i1.la,i1.lr,(yD ..).trans i1.lw,i1.sub,i1.nd,i1.va,i1.cl,i1.rs,i1.rN⟩,un.mono ⟨k1.sp,k1.ps,k1.us,k1.rt,k1.hP,k1.len,k1.perm,k1.pre⟩,v1,⟨k1.sp,k1.ps,k1.us,k1.rt,k1.hP,k1.len,k1.perm,k1.pre⟩,rfl⟩
    . have hl:r.length<=1:=by have :=hp.length_eq▸cx.len;simp at this;exact lA 0x7061200061200 tT this
      have hr:∀x∈r,-x∈p.tr:=fun x hx=>Decidable.of_not_not (one_mem (f:=fun x=>-x∉p.tr) hl cm hx);have hat:a∈tr:=by
        refine xea cx.t fun t ht htt=>?_;have hnt:-t∉p.tr:=fun z=>i0.ok.neg htt (i0.sub _ z);clear v hg hx hn hw hc0 i00 un0 v0 k0 hba ca hav;rcases zL.mp (hp.mem_iff.mp ht)with rfl|ht;.exact htt
        . clear hp;rcases zL.mp ht with rfl|ht;.exact absurd hgt hnt
          .exact absurd (hr t ht) hnt
      have hna:-a∉p.tr:=fun z=>i0.ok.neg hat (i0.sub _ z);have ho:∀y∈a::gone::r,y≠a->-y∈p.tr:=fun y hy hya=>by
        clear v hg hx hn hp hw hc0 i00 un0 v0 k0 hba ca hav hat hna;rcases zL.mp hy with rfl|hy;.exact absurd rfl hya
        . rcases zL.mp hy with rfl|hy;.exact hgt
          .exact hr y hy
      have i1:=i00.enq hc0 (zF ..) hat ca ho;have k1:=k0.trans (Kp.enq (a:=a) (n:=m));refine⟨_,_,Turn.unit hc cx.len hb hn (i0.v0 hba ca hna) (fun x hx=>i0.v2 (hr x hx)),i1,un.mono k1,?_,k1,rfl⟩;exact v0.keep (t:=[a]) (p1:=enqP (p.sCl (p.cl.set m (a::gone::r))) a m) hc0 rfl rfl rfl hh (List.mem_append_right _ (zD.mpr rfl)) hna
theorem VI.kl{rest:List Nat}(v:VI gone h W0 rest p kept):kept.length<=p.cl.length:=nat_len v.vk fun n hn=>by
 refine xe2a2 (v.vk2 n hn) fun m d e hd _=>?_;exact⟨m,e,idx_lt hd⟩
theorem vis_ex(hW:W0.length<=800):∀(rest:List Nat)(p:P)(kept:List Int),I0 tr p->Un p->VI gone h W0 rest p kept->p.tr[h]?=some (-gone)->p.cl.length<=100->∃p' kept',Vis (tr.length+1) gone W0 rest p kept p' kept'/\I0 tr p'/\Un p'/\VI gone h W0 [] p' kept'/\Kp p p'/\p'.hd=p.hd:=by
 intro v;induction v with|nil=>
  intro p kept i0 un v hg hc;exact⟨p,kept,.nil (i0.vsz hc (v.wl hW hc)) v.ws0,i0,un,v,.refl,rfl⟩|cons m rest ih=>
  intro p kept i0 un v hg hc;refine xe2a5 (VI.step i0 un v hg) fun p1 kept1 t i1 un1 v1 k1 e1=>?_;have hg1:p1.tr[h]?=some (-gone):=by
   obtain⟨t,e⟩:=k1.pre;rw[e,zZ (idx_lt hg)];exact hg
  refine xe2a5 (ih p1 kept1 i1 un1 v1 hg1 (k1.len▸hc)) fun p2 kept2 vs i2 un2 v2 k2 e2=>?_;exact⟨p2,kept2,.cons (i0.vsz hc (v.wl hW hc)) v.ws0 (zE v.kl (by exact lA 0x7064362000603233200 tT hc)) t vs,i2,un2,v2,k1.trans k2,e2.trans e1⟩
structure Wt(h:Nat)(p:P):Prop where
 w1:∀(q:Nat)(w:List Int)(n:Int),p.ws[q]?=some w->n∈w->∃(m:Nat)(c:List Int)(x:Int),n=m/\p.cl[m]?=some c/\2<=c.length/\wat c x/\plN x=q
 w2:∀(m:Nat)(c:List Int)(x:Int),p.cl[m]?=some c->2<=c.length->wat c x->∃w,p.ws[plN x]?=some w/\(m:Int)∈w
 w3:∀(q:Nat)(w:List Int),p.ws[q]?=some w->w.Nodup
 w4:∀(m:Nat)(c:List Int)(x y:Int),p.cl[m]?=some c->2<=c.length->wat c x->wat c y->x≠y->-x∈p.tr.take h->y∈p.tr
theorem Wt.wl(w:Wt h p)(hc:p.cl.length<=100):∀x∈p.ws,x.length<=p.cl.length:=fun x hx=>by
 obtain⟨q,hq,e⟩:=yI hx;have hq:p.ws[q]?=some x:=zM.mpr ⟨hq,e⟩;exact nat_len (w.w3 q x hq) fun n hn=>by
  refine xe3a2 (w.w1 q x n hq hn) fun m d y e hd _=>?_;exact⟨m,e,idx_lt hd⟩
theorem I0.sHd(i0:I0 tr p)(i:Int):I0 tr (p.sHd i):=⟨i0.ok,i0.n5,i0.st,i0.la,i0.lr,i0.lw,i0.sub,i0.nd,i0.va,i0.cl,i0.rs,i0.rN⟩
theorem visit_ex(i0:I0 tr p)(un:Un p)(w:Wt h p)(hl:p.tr[h]?=some lit)(hc:p.cl.length<=100):∃rest p' kept',Vis (tr.length+1) (-lit) (rest.map fun n:Nat=>(n:Int)) rest (p.sHd (h+1:Nat)) [] p' kept'/\I0 tr (p'.sWs (p'.ws.set (plN (-lit)) kept'))/\Un (p'.sWs (p'.ws.set (plN (-lit)) kept'))/\Wt (h+1) (p'.sWs (p'.ws.set (plN (-lit)) kept'))/\Kp p (p'.sWs (p'.ws.set (plN (-lit)) kept'))/\p'.hd=(h+1:Nat):=by
  have hlt:=yB hl;have hab:=i0.abs hlt;have hz:-lit≠0:=by exact fun e=>lY 0x756440201540200560154020082820500128080650202 tT hab.1 (zY (lZ 0x75602440201360102 tT e)) (zT (lZ 0x77f7f5502440201360201 tT e))
  have hws:plN (-lit)<p.ws.length:=i0.lw▸plN_lt (by rw[Int.natAbs_neg];first|exact hab.2|exact Nat.le_succ_of_le hab.2);obtain⟨W0,hW0⟩:∃W0,p.ws[plN (-lit)]?=some W0:=⟨_,zH hws⟩;obtain⟨rest,hrest⟩:∃rest:List Nat,W0=rest.map fun n:Nat=>(n:Int):=by
    have :∀l:List Int,(∀y∈l,∃m:Nat,y=m)->∃prn:List Nat,l=prn.map fun s:Nat=>(s:Int):=fun l=>by
      induction l with|nil=>exact fun _=>⟨[],rfl⟩|cons a r ih=>
        intro hh;obtain⟨m,rfl⟩:=hh a (zF ..);obtain⟨prn,e⟩:=ih fun y hy=>hh y (zI _ hy);exact⟨m::prn,by rw[List.map_cons,<-e]⟩
    exact this W0 fun y hy=>(w.w1 _ W0 y hW0 hy).imp fun m q=>q.elim fun c q=>q.elim fun x q=>q.1
  subst hrest;have hx:∀x q,q≠plN (-lit)->plN x=q->x≠-lit:=fun x q h1 h2 e=>h1 (by rw[<-h2,e]);have v:VI (-lit) h (rest.map fun n:Nat=>(n:Int)) rest (p.sHd (h+1:Nat)) []:=by
    refine⟨hW0,fun q w' n _=>w.w1 q w' n,fun m c x hcm h2 hxc=>⟨fun _=>w.w2 m c x hcm h2 hxc,fun e=>.inl ?_⟩,fun q w' _=>w.w3 q w',List.nodup_nil,?_,fun _ _ z=>(nomatch z),fun _ z=>(nomatch z),fun m hm=>?_,fun m c x y hcm h2 hxc hyc hne hin=>?_⟩
    .subst e;refine xea (w.w2 m c _ hcm h2 hxc) fun w' h1 h3=>?_;rw[hW0]at h1;cases h1;refine xea (yE.mp h3) fun m' hm' e=>?_;rw[<-Int.ofNat_inj.mp e];exact hm'
    .have :=w.w3 _ _ hW0;exact(List.pairwise_map.mp this).imp fun h e=>h (by rw[e])
    .refine xe3a4 (w.w1 _ _ m hW0 (List.mem_map_of_mem hm)) fun m' c x e hcm h2 hxc hp=>?_;rw[Int.ofNat_inj.mp e];have :=plN_inj (fun e=>(i0.cl m' c hcm).z x (wat_mem hxc) e) hz hp;exact⟨c,hcm,h2,this▸hxc⟩
    . by_cases e:m∈rest;.rw[zU e]at hin;exact w.w4 m c x y hcm h2 hxc hyc hne hin
      . rw[zN e]at hin;have hin:-x∈p.tr.take (h+1):=hin;rw[List.take_add_one,hl]at hin;rcases yV.mp hin with hin|hin;.exact w.w4 m c x y hcm h2 hxc hyc hne hin
        . simp only[Option.toList_some,zD]at hin;have ex:x=-lit:=by exact lin [] [_,_] 0x77f8155114402015644021101 tT hin
          clear hne;subst ex;refine xea (w.w2 m c _ hcm h2 hxc) fun w' h1 h3=>?_;rw[hW0]at h1;cases h1;refine xea (yE.mp h3) fun m' hm' e'=>?_;rw[<-Int.ofNat_inj.mp e']at e;exact absurd hm' e
  have hWl:=zE (w.wl hc _ (yB hW0)) (zE hc (by decide:100<=800));refine xe2a5 (vis_ex hWl rest (p.sHd (h+1:Nat)) [] (i0.sHd _) un v (by rw[Int.neg_neg];exact hl) hc) fun p' kept' vs i1 un1 v1 k1 e1=>?_;have hi':=idx_lt v1.ws0;refine⟨rest,p',kept',vs,⟨i1.ok,i1.n5,i1.st,i1.la,i1.lr,(yD ..).trans i1.lw,i1.sub,i1.nd,i1.va,i1.cl,i1.rs,i1.rN⟩,un1,⟨fun q w' n hw' hn=>?_,fun m c x hcm h2 hxc=>?_,fun q w' hw'=>?_,fun m c x y hcm h2 hxc hyc hne hin=>v1.v4 m c x y hcm h2 hxc hyc hne hin⟩,⟨k1.sp,k1.ps,k1.us,k1.rt,k1.hP,k1.len,k1.perm,k1.pre⟩,e1⟩
  . have hw':(p'.ws.set (plN (-lit)) kept')[q]?=some w':=hw';by_cases e:plN (-lit)=q
    .subst e;rw[zP hi']at hw';cases hw';refine xe2a3 (v1.vk2 n hn) fun m c e hcm h2 hxc=>?_;exact⟨m,c,_,e,hcm,h2,hxc,rfl⟩
    .rw[zK e]at hw';exact v1.v1 q w' n (Ne.symm e) hw' hn
  . show∃w',(p'.ws.set (plN (-lit)) kept')[plN x]?=some w'/\_;obtain⟨h3,h4⟩:=v1.v2 m c x hcm h2 hxc;by_cases e:x=-lit
    . clear hxc h3;subst e;refine⟨kept',zP hi',?_⟩;rcases h4 rfl with z|z;.cases z
      .exact z
    .have hne:plN (-lit)≠plN x:=fun z=>e (plN_inj ((i1.cl m c hcm).z x (wat_mem hxc)) hz z.symm);refine xea (h3 e) fun w' h5 h6=>?_;exact⟨w',(zK hne).trans h5,h6⟩
  . have hw':(p'.ws.set (plN (-lit)) kept')[q]?=some w':=hw';by_cases e:plN (-lit)=q
    .subst e;rw[zP hi']at hw';cases hw';exact v1.vk
    .rw[zK e]at hw';exact v1.v3 q w' (Ne.symm e) hw'
theorem prop_ex:∀(k h:Nat)(p:P),tr.length-h<=k->I0 tr p->Un p->Wt h p->p.hd=h->h<=p.tr.length->p.cl.length<=100->∃p',Prop' (tr.length+1) p p'/\I0 tr p'/\Un p'/\Wt p'.tr.length p'/\Kp p p'/\p'.hd=p'.tr.length:=by
 intro k;induction k with|zero=>
    intro h p hk i0 un w hh hl hc;have :=i0.tl;have e:h=p.tr.length:=by exact lD 0x780810504002030808105301081800510008081050220261000 tT hk hl this (le_sub_ad _ _)
    have hn5:=i0.n5;exact⟨p,.done (by rw[hh,e]) (by exact lB 0x70652100610000603233200 tT this hn5),i0,un,e▸w,.refl,by rw[hh,e]⟩|succ k ih=>
    intro h p hk i0 un w hh hl hc;have htl:=i0.tl;have hn5:=i0.n5;rcases Nat.lt_or_ge h p.tr.length with q|q
    . obtain⟨lit,hlit⟩:∃lit,p.tr[h]?=some lit:=⟨_,zH q⟩;refine xe3a5 (visit_ex i0 un w hlit hc) fun rest p' kept' vs i1 un1 w1 k1 e1=>?_;have hp1:h+1<=(p'.sWs (p'.ws.set (plN (-lit)) kept')).tr.length:=by
        obtain⟨t,e⟩:=k1.pre;rw[e,zJ];exact lC 0x716100006042010041200 tT q
      refine xea5 (ih (h+1) _ (by exact lE 0x70604302040264004041230000604121020061000 tT hk (yC (lC 0x71620000610200610041200 tT htl q)) (le_sub_ad _ _)) i1 un1 w1 e1 hp1 (k1.len▸hc)) fun p2 h1 h2 h3 h4 h5 h6=>?_;exact⟨p2,.step hh hlit (by exact lB 0x70652100610000603233200 tT htl hn5) vs h1,h2,h3,h4,k1.trans h5,h6⟩
    . have e:h=p.tr.length:=by exact lB 0x780810500108180051000261000 tT hl q
      exact⟨p,.done (by rw[hh,e]) (by exact lB 0x70652100610000603233200 tT htl hn5),i0,un,e▸w,.refl,by rw[hh,e]⟩
theorem I0.ext(h:I0 tr p)(e1:p'.asg=p.asg)(e2:p'.rea=p.rea)(e3:p'.tr=p.tr)(e4:p'.st=p.st)(e5:p'.ws.length=p.ws.length)(e6:p'.cl=p.cl++[c])(hc:CX tr c):I0 tr p':=by
  refine⟨h.ok,h.n5,e4.trans h.st,e1▸h.la,e2▸h.lr,e5.trans h.lw,e3▸h.sub,e3▸h.nd,fun v hv=>?_,fun n d hd=>?_,fun i l hl=>?_,e2▸h.rN⟩;.rw[e1,e3];exact h.va v hv
  . rw[e6]at hd;rcases Nat.lt_or_ge n p.cl.length with q|q;.rw[zZ q]at hd;exact h.cl n d hd
    . rw[List.getElem?_append_right q]at hd;have :d=c:=by
        rcases Nat.eq_zero_or_pos (n-p.cl.length)with z|z;.rw[z]at hd;cases hd;rfl
        .rw[yJ (by simp;exact lA 0x7160002060012 tT z)]at hd;cases hd
      rw[this];exact hc
  .rw[e3]at hl⊢;refine xe2a3 (h.rs i l hl) fun m d h1 h2 h3 h4=>?_;exact⟨m,d,e2▸h1,by rw[e6,zZ (idx_lt h2)];exact h2,h3,h4⟩
theorem app_get{l:List α}{x y:α}(h:(l++[x])[n]?=some y):(n<l.length/\l[n]?=some y)\/(n=l.length/\y=x):=by
 rcases Nat.lt_trichotomy n l.length with q|q|q;.rw[zZ q]at h;exact .inl ⟨q,h⟩
 .subst q;simp at h;exact .inr ⟨rfl,h.symm⟩
 .rw[List.getElem?_append_right (by exact lB 0x7161000061000 tT q),yJ (by simp;exact lC 0x70604100020162010060012 tT q (le_sub_ad _ _))]at h;cases h
theorem Wt.add1(w:Wt h p)(hc:c.length=1)(e1:p'.cl=p.cl++[c])(e2:p'.ws=p.ws)(e3:p'.tr=p.tr++t)(hh:h<=p.tr.length):Wt h p':=by
  refine⟨fun q w' n hw hn=>?_,fun m d x hd h2 hx=>?_,fun q w' hw=>w.w3 q w' (e2▸hw),fun m d x y hd h2 hx hy hne hin=>?_⟩;.refine xe3a2 (w.w1 q w' n (e2▸hw) hn) fun m d x e hd r=>?_;exact⟨m,d,x,e,by rw[e1,zZ (idx_lt hd)];exact hd,r⟩
  . rw[e1]at hd;rcases app_get hd with⟨_,hd⟩|⟨_,rfl⟩;.rw[e2];exact w.w2 m d x hd h2 hx
    .exact False.elim (lA 0x72612000600228080650202 tT h2 hc)
  . rw[e1]at hd;rw[e3]at hin⊢;rcases app_get hd with⟨_,hd⟩|⟨_,rfl⟩;.exact yP _ (w.w4 m d x y hd h2 hx hy hne (take_mono hh hin))
    .exact False.elim (lA 0x72612000600228080650202 tT h2 hc)
theorem Wt.add2(w:Wt h p)(i0:I0 tr p){b:Int}{r:List Int}(cx:CX tr (a::b::r))(e1:p'.cl=p.cl++[a::b::r])(e2:p'.ws=addW (addW p.ws a p.cl.length) b p.cl.length)(e3:p'.tr=p.tr++t)(hh:h<=p.tr.length)(ha:-a∉p.tr)(hb:-b∈p.tr->a∈p'.tr):Wt h p':=by
  have da:=cx.da;unfold DA at da;rw[yT]at da;have hab:a≠b:=fun e=>da.1 b (zF ..) (by rw[e]);have hz:∀x∈a::b::r,x≠0:=cx.z;have pab:plN a≠plN b:=fun e=>hab (plN_inj (hz a (by simp)) (hz b (by simp)) e);have pa:plN a<p.ws.length:=i0.lw▸plN_lt (cx.b a (by simp));have pb:plN b<p.ws.length:=i0.lw▸plN_lt (cx.b b (by simp));have hwl:(addW p.ws a p.cl.length).length=p.ws.length:=yD ..;have get:∀q w',p'.ws[q]?=some w'->p.ws[q]?=some w'\/((q=plN a\/q=plN b)/\∃w0,p.ws[q]?=some w0/\w'=w0++[(p.cl.length:Int)]):=fun q w' hw=>by
    rw[e2]at hw;unfold addW at hw;by_cases c1:plN b=q
    .subst c1;rw[zP (by rw[yD];exact pb)]at hw;cases hw;refine .inr ⟨.inr rfl,_,zH pb,?_⟩;rw[zO,zK pab,zH pb];rfl
    . rw[zK c1]at hw;by_cases c2:plN a=q
      .subst c2;rw[zP pa]at hw;cases hw;refine .inr ⟨.inl rfl,_,zH pa,?_⟩;rw[zO,zH pa];rfl
      .rw[zK c2]at hw;exact .inl hw
  have put:∀q w0,p.ws[q]?=some w0->∃w',p'.ws[q]?=some w'/\(∀n∈w0,n∈w')/\((q=plN a\/q=plN b)->(p.cl.length:Int)∈w'):=fun q w0 hw=>by
    rw[e2];unfold addW;by_cases c1:plN b=q
    .subst c1;refine⟨_,zP (by rw[yD];exact pb),?_,fun _=>by simp⟩;rw[zO,zK pab,hw];exact fun n hn=>yP _ hn
    . rw[zK c1];by_cases c2:plN a=q
      .clear c1;subst c2;refine⟨_,zP pa,?_,fun _=>by simp⟩;rw[zO,hw];exact fun n hn=>yP _ hn
      .rw[zK c2];exact⟨w0,hw,fun _ h=>h,fun z=>z.elim (fun z=>absurd z.symm c2) fun z=>absurd z.symm c1⟩
  have hnew:p'.cl[p.cl.length]?=some (a::b::r):=by rw[e1];simp
  have old:∀(m:Nat)d,p.cl[m]?=some d->p'.cl[m]?=some d:=fun m d hd=>by rw[e1,zZ (idx_lt hd)];exact hd
  have nin:∀q w0,p.ws[q]?=some w0->(p.cl.length:Int)∉w0:=fun q w0 hw z=>by
    refine xe3a2 (w.w1 q w0 _ hw z) fun m d x e hd _=>?_;exact Nat.ne_of_gt (idx_lt hd) (Int.ofNat_inj.mp e)
  refine⟨fun q w' n hw hn=>?_,fun m d x hd h2 hx=>?_,fun q w' hw=>?_,fun m d x y hd h2 hx hy hne hin=>?_⟩
  . rcases get q w' hw with hw|⟨hq,w0,hw0,rfl⟩
    .refine xe3a2 (w.w1 q w' n hw hn) fun m d x e hd r=>?_;exact⟨m,d,x,e,old m d hd,r⟩
    . clear hw;rcases yV.mp hn with hn|hn;.refine xe3a2 (w.w1 q w0 n hw0 hn) fun m d x e hd r=>?_;exact⟨m,d,x,e,old m d hd,r⟩
      . rw[zD]at hn;clear hw0;rcases hq with rfl|rfl;.exact⟨_,_,a,hn,hnew,by simp,wat_cons.mpr (.inl rfl),rfl⟩
        .exact⟨_,_,b,hn,hnew,by simp,wat_cons.mpr (.inr rfl),rfl⟩
  . rw[e1]at hd;clear cx e2 ha hb hab hz pab hwl get hnew;rcases app_get hd with⟨_,hd⟩|⟨e,rfl⟩;.refine xea (w.w2 m d x hd h2 hx) fun w0 hw0 hm=>?_;refine xea2 (put _ w0 hw0) fun w' h1 h3 _=>?_;exact⟨w',h1,h3 _ hm⟩
    . clear e1 hd h2;subst e;rcases wat_cons.mp hx with rfl|rfl
      .refine xea2 (put (plN x) _ (zH pa)) fun w' h1 _ h3=>?_;exact⟨w',h1,h3 (.inl rfl)⟩
      .refine xea2 (put (plN x) _ (zH pb)) fun w' h1 _ h3=>?_;exact⟨w',h1,h3 (.inr rfl)⟩
  . rcases get q w' hw with hw|⟨_,w0,hw0,rfl⟩;.exact w.w3 q w' hw
    .exact List.nodup_append.mpr ⟨w.w3 q w0 hw0,List.pairwise_singleton ..,fun x hx y hy e=>by rw[zD]at hy;subst hy;subst e;exact nin q w0 hw0 hx⟩
  . rw[e1]at hd;rw[e3]at hin;have hin:=take_mono hh hin;clear cx e2 hab hz pab pa pb hwl get put hnew;rcases app_get hd with⟨_,hd⟩|⟨e,rfl⟩;.rw[e3];exact yP _ (w.w4 m d x y hd h2 hx hy hne hin)
    . have hin:=List.mem_of_mem_take hin;clear e1 hd h2;rcases wat_cons.mp hx with rfl|rfl;.exact absurd hin ha
      . rcases wat_cons.mp hy with rfl|rfl;.exact hb hin
        .exact absurd rfl hne
structure Ka(p p1:P)(c:List Int):Prop where
 sp:p1.sp=p.sp++[(p.ps.length:Int)]
 ps:p1.ps=p.ps++[.inp c p.ps.length]
 us:p1.us=p.us
 rt:p1.rt=p.rt
 hP:p1.hP=p.hP
 hd:p1.hd=p.hd
 cl:∃c',p1.cl=p.cl++[c']/\c.Perm c'
 pre:∃t,p1.tr=p.tr++t
theorem add_ex(i0:I0 tr p)(un:Un p)(w:Wt h p)(hh:h<=p.tr.length)(hc:ClOk tr c):COk (tr.length+1) p c/\I0 tr (addP p c)/\Un (addP p c)/\Wt h (addP p c)/\Ka p (addP p c) c:=by
  have hb:∀x∈c,x.natAbs<=tr.length+1:=hc.b;refine xea hc.t fun t htc htt=>?_;have hnt:-t∉p.tr:=fun z=>i0.ok.neg htt (i0.sub _ z);have hperm:=byH_perm p.asg c;obtain⟨a,u,hu⟩:∃a u,c.filter (fun x=>decide (pv p.asg x≠-1))=a::u:=by
    have :t∈c.filter (fun x=>decide (pv p.asg x≠-1)):=yM.mpr ⟨htc,decide_eq_true fun e=>hnt ((i0.f_iff (hb t htc)).mp e)⟩;cases q:c.filter (fun x=>decide (pv p.asg x≠-1))with|nil=>rw[q]at this;cases this|cons a u=>exact⟨a,u,rfl⟩
  have eb:byH p.asg c=a::(u++c.filter (fun x=>!decide (pv p.asg x≠-1))):=by unfold byH;rw[hu];rfl
  have hac:a∈c:=(yM.mp (show a∈c.filter _ by rw[hu];simp)).1;have hav:pv p.asg a≠-1:=zW (yM.mp (show a∈c.filter (fun x=>decide (pv p.asg x≠-1))by rw[hu];simp)).2;have hna:-a∉p.tr:=fun z=>hav (i0.v2 z);have ha0:(byH p.asg c).getD 0 0=a:=by rw[eb];rfl
  have hlen:=hperm.length_eq;have co:COk (tr.length+1) p c:=by
    refine⟨hc.sa,hc.len,List.length_pos_of_mem htc,hc.z,hb,ha0▸hav,fun x hx hv e=>?_⟩;have :=(i0.abs ((i0.f_iff (hb x hx)).mp hv)).2;rw[Int.natAbs_neg,e]at this;exact Nat.not_succ_le_self _ this
  have cx':CX tr (byH p.asg c):=hc.cs.perm hperm.symm;have hset:(p.cl++[c]).set p.cl.length (byH p.asg c)=p.cl++[byH p.asg c]:=by
    rw[List.set_append_right _ _ (yO _),Nat.sub_self];rfl
  have hforce:(c.length=1\/pv p.asg ((byH p.asg c).getD 1 0)=-1)->∀y∈c,y≠a->-y∈p.tr:=fun hq y hy hya=>by
    cases u with|nil=>
   refine(i0.f_iff (hb y hy)).mp (Decidable.byContradiction fun e=>?_);have :y∈c.filter (fun x=>decide (pv p.asg x≠-1)):=yM.mpr ⟨hy,decide_eq_true e⟩;rw[hu,zD]at this;exact hya this|cons b u=>
      rcases hq with hq|hq;.rw[eb]at hlen;simp at hlen;exact False.elim (lC 0x72600041204120420102612008080650202 tT hq hlen)
      . have e1:(byH p.asg c).getD 1 0=b:=by rw[eb];rfl
        have :b∈c.filter (fun x=>decide (pv p.asg x≠-1)):=by rw[hu];simp
        rw[e1]at hq;exact absurd hq (zW (yM.mp this).2)
  have hforce2:(c.length=1\/pv p.asg ((byH p.asg c).getD 1 0)=-1)->a∈tr:=fun hq=>by
    by_cases e:t=a;.exact e▸htt
    .exact absurd (hforce hq t htc e) hnt
  generalize hp3:((((p.sPs (p.ps++[.inp c p.ps.length])).sCl (p.cl++[c])).sSp (p.sp++[(p.ps.length:Int)])).sCl ((p.cl++[c]).set p.cl.length (byH p.asg c))).sWs (if c.length>1 then addW (addW p.ws a p.cl.length) ((byH p.asg c).getD 1 0) p.cl.length else p.ws)=p3;have eadd:addP p c=if pv p.asg a=0/\(c.length=1\/pv p.asg ((byH p.asg c).getD 1 0)=-1)then enqP p3 a p.cl.length else p3:=by
    have e0:∀z,z=a->(if pv p.asg z=0/\(c.length=1\/pv p.asg ((byH p.asg c).getD 1 0)=-1)then enqP (((((p.sPs (p.ps++[.inp c p.ps.length])).sCl (p.cl++[c])).sSp (p.sp++[(p.ps.length:Int)])).sCl ((p.cl++[c]).set p.cl.length (byH p.asg c))).sWs (if c.length>1 then addW (addW p.ws z p.cl.length) ((byH p.asg c).getD 1 0) p.cl.length else p.ws)) z p.cl.length else((((p.sPs (p.ps++[.inp c p.ps.length])).sCl (p.cl++[c])).sSp (p.sp++[(p.ps.length:Int)])).sCl ((p.cl++[c]).set p.cl.length (byH p.asg c))).sWs (if c.length>1 then addW (addW p.ws z p.cl.length) ((byH p.asg c).getD 1 0) p.cl.length else p.ws))=if pv p.asg a=0/\(c.length=1\/pv p.asg ((byH p.asg c).getD 1 0)=-1)then enqP p3 a p.cl.length else p3:=fun z hz=>by
      clear hu eb hac hav hna ha0 hforce hforce2;subst hz;rw[hp3]
    exact e0 _ ha0
  have f1:p3.asg=p.asg:=by rw[<-hp3];rfl
  have f2:p3.rea=p.rea:=by rw[<-hp3];rfl
  have f3:p3.tr=p.tr:=by rw[<-hp3];rfl
  have f4:p3.st=p.st:=by rw[<-hp3];rfl
  have f6:p3.cl=p.cl++[byH p.asg c]:=by rw[<-hp3];exact hset
  have f7:p3.ws=if c.length>1 then addW (addW p.ws a p.cl.length) ((byH p.asg c).getD 1 0) p.cl.length else p.ws:=by rw[<-hp3];rfl
  have f8:p3.sp=p.sp++[(p.ps.length:Int)]:=by rw[<-hp3];rfl
  have f9:p3.ps=p.ps++[.inp c p.ps.length]:=by rw[<-hp3];rfl
  have f10:p3.us=p.us/\p3.rt=p.rt/\p3.hP=p.hP/\p3.hd=p.hd:=by rw[<-hp3];exact⟨rfl,rfl,rfl,rfl⟩
  clear hp3;have f5:p3.ws.length=p.ws.length:=by rw[f7];split<;>simp[addW]
  have i3:=i0.ext f1 f2 f3 f4 f5 f6 cx';have hcl3:p3.cl[p.cl.length]?=some (byH p.asg c):=by rw[f6];simp
  have hab:a.natAbs<=tr.length+1:=hb a hac;have wt:∀(p4:P)(s:List Int),p4.cl=p3.cl->p4.ws=p3.ws->p4.tr=p.tr++s->(c.length>1->pv p.asg ((byH p.asg c).getD 1 0)=-1->a∈p4.tr)->Wt h p4:=fun p4 s e1 e2 e3 hba=>by
    by_cases c1:c.length>1
    . rw[f7,zU c1]at e2;obtain⟨b,r,er⟩:∃b r,byH p.asg c=a::b::r:=by
        rw[eb]at hlen⊢;cases q:u++c.filter (fun x=>!decide (pv p.asg x≠-1))with|nil=>rw[q]at hlen;simp at hlen;exact False.elim (lA 0x77f7f2500121600128080650202 tT c1 hlen)|cons b r=>exact⟨b,r,rfl⟩
      have eb1:(byH p.asg c).getD 1 0=b:=by rw[er];rfl
      rw[eb1]at e2 hba;exact w.add2 i0 (er▸cx') (by rw[e1,f6,er]) e2 e3 hh hna fun hbn=>hba c1 (i0.v2 hbn)
    .rw[f7,zN c1]at e2;exact w.add1 (c:=byH p.asg c) (by rw[hlen];have :=List.length_pos_of_mem htc;exact lA 0x780811500028180051200261200 tT (Nat.le_of_not_lt c1) this) (by rw[e1,f6]) e2 e3 hh
  have un4:∀(p4:P)(s:List Int),p4.cl=p3.cl->p4.tr=p.tr++s->(c.length=1->a∈p4.tr)->Un p4:=fun p4 s e1 e3 hx n d x hd h1 hxd=>by
    rw[e1,f6]at hd;rcases app_get hd with⟨_,hd⟩|⟨_,rfl⟩;.rw[e3];exact yP _ (un n d x hd h1 hxd)
    . have h1':=hx (hlen▸h1);rw[eb]at h1 hxd;have :u++c.filter (fun x=>!decide (pv p.asg x≠-1))=[]:=by
        cases q:u++c.filter (fun x=>!decide (pv p.asg x≠-1))with|nil=>rfl|cons _ _=>rw[q]at h1;simp at h1
      rw[this,zD]at hxd;rw[hxd];exact h1'
  by_cases cc:pv p.asg a=0/\(c.length=1\/pv p.asg ((byH p.asg c).getD 1 0)=-1)
  . rw[zU cc]at eadd;have hat:=hforce2 cc.2;have hnt':a∉p.tr:=fun z=>by have :=i0.v1 z;rw[cc.1]at this;exact absurd this (by decide)
    have hap:a∈(enqP p3 a p.cl.length).tr:=List.mem_append_right _ (zD.mpr rfl);have htr4:(enqP p3 a p.cl.length).tr=p.tr++[a]:=by show p3.tr++[a]=_;rw[f3]
    have i4:=i3.enq hcl3 (hperm.mem_iff.mpr hac) hat (f3▸hnt') (fun y hy hya=>f3▸hforce cc.2 y (hperm.mem_iff.mp hy) hya);rw[eadd];exact⟨co,i4,un4 _ [a] rfl htr4 fun _=>hap,wt _ [a] rfl rfl htr4 fun _ _=>hap,f8,f9,f10.1,f10.2.1,f10.2.2.1,f10.2.2.2,⟨_,f6,hperm.symm⟩,[a],htr4⟩
  . rw[zN cc]at eadd;have hq:(c.length=1\/pv p.asg ((byH p.asg c).getD 1 0)=-1)->a∈p3.tr:=fun hq=>by
      rw[f3];refine(i0.t_iff hab).mp (Decidable.byContradiction fun e=>cc ⟨?_,hq⟩);exact i0.v0 hab (fun z=>e (i0.v1 z)) hna
    have htr4:p3.tr=p.tr++[]:=by rw[f3,yS]
    rw[eadd];exact⟨co,i3,un4 _ [] rfl htr4 fun z=>hq (.inl z),wt _ [] rfl rfl htr4 fun _ z=>hq (.inr z),f8,f9,f10.1,f10.2.1,f10.2.2.1,f10.2.2.2,⟨_,f6,hperm.symm⟩,[],htr4⟩
structure I1(tr:List Int)(w:Nat->Nat)(r:Nat)(p:P):Prop where
 lsp:p.sp.length=p.cl.length
 sp:∀(n:Nat)(c:List Int),p.cl[n]?=some c->∃(f:Nat)(c0:List Int)(k:Int),p.sp[n]?=some (f:Int)/\p.ps[f]?=some (.inp c0 k)/\SA c0/\c0.Perm c/\w f<=1
 lus:p.us.length=tr.length+1+1
 rt:p.rt=(r:Int)
 rl:r<=p.tr.length
 pl:p.ps.length<=p.cl.length+r
 us1:∀(i:Nat)l,i<r->p.tr[i]?=some l->∃(s:Nat)(st:PS),p.us[l.natAbs]?=some (some (s:Int))/\p.ps[s]?=some st/\st.cl=[l]/\w s<=4^i
 us0:∀v:Nat,v<=tr.length+1->(∀(i:Nat)l,i<r->p.tr[i]?=some l->l.natAbs≠v)->p.us[v]?=some none
 ok:PsOk (tr.length+1) p.ps w
theorem pre_get(h:∃t,p1.tr=p.tr++t){r:Nat}(hi:i<r)(hr:r<=p.tr.length):p1.tr[i]?=p.tr[i]?:=by
 obtain⟨t,e⟩:=h;rw[e,zZ (by exact lC 0x7061020162000161000 tT hi hr)]
theorem I1.kp{r:Nat}(i:I1 tr w r p)(k:Kp p p1):I1 tr w r p1:=by
 have hl:p.tr.length<=p1.tr.length:=by obtain⟨t,e⟩:=k.pre;rw[e,zJ];exact lB 0x70604100000 tT
 refine⟨by rw[k.sp,k.len];exact i.lsp,fun n c hc=>?_,k.us▸i.lus,k.rt▸i.rt,zE i.rl hl,by rw[k.ps,k.len];exact i.pl,fun j l hj hl=>?_,fun v hv hx=>?_,k.ps▸i.ok⟩;.refine xea (k.perm n c hc) fun c1 h1 q=>?_;refine xe3a4 (i.sp n c1 h1) fun f c0 kk a b d e g=>?_;exact⟨f,c0,kk,k.sp▸a,k.ps▸b,d,e.trans q,g⟩
 .rw[pre_get k.pre hj i.rl]at hl;rw[k.us,k.ps];exact i.us1 j l hj hl
 .rw[k.us];exact i.us0 v hv fun j l hj hl=>hx j l hj (by rw[pre_get k.pre hj i.rl];exact hl)
theorem PsOk.more{w':Nat->Nat}(o:PsOk N ps w)(hw:∀s,s<ps.length->w' s=w s)(h1:∀y∈st.pr,∃m:Nat,y=m/\m<ps.length)(h2:1+(st.pr.map fun y=>w y.toNat).sum<=w' ps.length)(h3:(∃c n,st=.inp c n)\/∀A,Opp A->(∀y∈st.pr,∀st':PS,ps[y.toNat]?=some st'->st'.cl.any A=true)->st.cl.any A=true)(h4:st.cl.length<=3/\∀x∈st.cl,1<=x.natAbs/\x.natAbs<=N):PsOk N (ps++[st]) w':=by
  have sums:∀l:List Int,(∀y∈l,∃m:Nat,y=m/\m<ps.length)->(l.map fun y=>w' y.toNat)=l.map fun y=>w y.toNat:=fun l hl=>List.map_congr_left fun y hy=>by
    refine xea (hl y hy) fun m e_1 hm=>?_;clear hy;subst e_1;exact hw m hm
  have up:∀l:List Int,(∀y∈l,∃m:Nat,y=m/\m<ps.length)->∀y∈l,∀st':PS,ps[y.toNat]?=some st'->(ps++[st])[y.toNat]?=some st':=fun l hl y hy st' h=>by
    rw[zZ (idx_lt h)];exact h
  refine⟨fun s t h y hy=>?_,fun s t h=>?_,fun s t h=>?_,fun s t h=>?_⟩
  . have :∃m:Nat,y=m/\m<ps.length:=by
      clear h2 h3 h4 up;rcases app_get h with⟨_,h⟩|⟨_,rfl⟩;.exact o.pr s t h y hy
      .exact h1 y hy
    refine xea this fun m e hm=>?_;exact⟨m,e,by rw[zJ];exact lC 0x71610001604201000 tT hm⟩
  . clear h3 h4 up;rcases app_get h with⟨hs,h⟩|⟨rfl,rfl⟩;.rw[hw s hs,sums _ (o.pr s t h)];exact o.w s t h
    .rw[sums _ h1];exact h2
  . clear h2 h4;rcases app_get h with⟨hs,h⟩|⟨rfl,rfl⟩;.exact(o.snd s t h).imp id fun q A hA hp=>q A hA fun y hy st' hst=>hp y hy st' (up _ (o.pr s t h) y hy st' hst)
    .exact h3.imp id fun q A hA hp=>q A hA fun y hy st' hst=>hp y hy st' (up _ h1 y hy st' hst)
  . clear h1 h2 h3 up;rcases app_get h with⟨hs,h⟩|⟨rfl,rfl⟩;.exact o.cl s t h
    .exact h4
theorem I1.add{r:Nat}(i:I1 tr w r p)(k:Ka p p1 c)(hc:ClOk tr c):I1 tr (fun s=>if s=p.ps.length then 1 else w s) r p1:=by
  refine xea k.cl fun c' hcl hperm=>?_;have hl:p.tr.length<=p1.tr.length:=by obtain⟨t,e⟩:=k.pre;rw[e,zJ];exact lB 0x70604100000 tT
  have hw:∀s,s<p.ps.length->(if s=p.ps.length then 1 else w s)=w s:=fun s hs=>zN (Nat.ne_of_lt hs);refine⟨by rw[k.sp,hcl,zJ,zJ,i.lsp];rfl,fun n d hd=>?_,k.us▸i.lus,k.rt▸i.rt,zE i.rl hl,by rw[k.ps,hcl,zJ,zJ];have :=i.pl;simp;exact lC 0x70604201000060420041210041200 tT this,fun j l hj hl=>?_,fun v hv hx=>?_,?_⟩
  . rw[hcl]at hd;rcases app_get hd with⟨hn,hd⟩|⟨rfl,rfl⟩
    .refine xe3a4 (i.sp n d hd) fun f c0 kk a b d e g=>?_;refine⟨f,c0,kk,by rw[k.sp,zZ (idx_lt a)];exact a,by rw[k.ps,zZ (idx_lt b)];exact b,d,e,?_⟩;rw[hw f (idx_lt b)];exact g
    .refine⟨p.ps.length,c,p.ps.length,by rw[k.sp,<-i.lsp];simp,by rw[k.ps];simp,hc.sa,hperm,?_⟩;show(if p.ps.length=p.ps.length then 1 else _)<=1;rw[zU rfl];exact yO _
  .rw[pre_get k.pre hj i.rl]at hl;refine xe2a3 (i.us1 j l hj hl) fun s st a b d e=>?_;refine⟨s,st,k.us▸a,by rw[k.ps,zZ (idx_lt b)];exact b,d,?_⟩;rw[hw s (idx_lt b)];exact e
  .rw[k.us];exact i.us0 v hv fun j l hj hl=>hx j l hj (by rw[pre_get k.pre hj i.rl];exact hl)
  .rw[k.ps];refine i.ok.more hw (fun _ h=>by cases h) ?_ (.inl ⟨_,_,rfl⟩) ⟨hc.len,fun x hx=>⟨by have :=hc.z x hx;lia,hc.b x hx⟩⟩;show 1+0<=(if p.ps.length=p.ps.length then 1 else _);rw[zU rfl];exact yO _
structure Inv(tr:List Int)(done:List (List Int))(w:Nat->Nat)(r h:Nat)(p:P):Prop where
 i0:I0 tr p
 un:Un p
 wt:Wt h p
 hh:h<=p.tr.length
 hd:p.hd=(h:Int)
 i1:I1 tr w r p
 hP:p.hP=(iniP (tr.length+1)).hP
 dn:∀c∈done,∃(n:Nat)(d:List Int),p.cl[n]?=some d/\c.Perm d
 dl:p.cl.length=done.length
theorem rep_get{a b:α}(h:(List.replicate n a)[i]?=some b):b=a:=by
 rw[List.getElem?_replicate]at h;split at h;.cases h;rfl
 .cases h
theorem inv_ini(ok:TrOk tr)(n5:tr.length<=5):Inv tr [] (fun _=>1) 0 0 (iniP (tr.length+1)):=by
 have l1:∀{α:Type}(a:α)n,(List.replicate n a).length=n:=fun a n=>yZ;have nws:∀(q:Nat)(w:List Int),(iniP (tr.length+1)).ws[q]?=some w->w=[]:=fun q w h=>rep_get h;refine⟨⟨ok,n5,rfl,l1 _ _,l1 _ _,l1 _ _,fun l hl=>(nomatch hl),List.nodup_nil,fun v hv=>?_,fun n c hc=>(nomatch hc),fun i l hl=>(nomatch hl),?_⟩,fun n c x hc=>(nomatch hc),⟨fun q w n hw hn=>?_,fun m c x hc=>(nomatch hc),fun q w hw=>?_,fun m c x y hc=>(nomatch hc)⟩,yA _,rfl,⟨rfl,fun n c hc=>(nomatch hc),l1 _ _,rfl,yA _,yA _,fun i l hi=>absurd hi (Nat.not_lt_zero _),fun v hv _=>?_,⟨fun s st h=>(nomatch h),fun s st h=>(nomatch h),fun s st h=>(nomatch h),fun s st h=>(nomatch h)⟩⟩,rfl,fun c hc=>(nomatch hc),rfl⟩;.show(List.replicate (tr.length+1+1) (0:Int)).getD v 0=if(v:Int)∈([]:List Int)then 1 else if-(v:Int)∈([]:List Int)then-1 else 0;rw[zO,List.getElem?_replicate,zU (by exact lB 0x7060412100016041204121000 tT hv)];simp
 .show(List.replicate (tr.length+1+1) (-1:Int))[tr.length+1]?=_;rw[List.getElem?_replicate,zU (by exact lA 0x7160412041200041200 tT)]
 .rw[nws q w hw]at hn;cases hn
 .rw[nws q w hw];exact List.nodup_nil
 .show(List.replicate (tr.length+1+1) (none:Option Int))[v]?=_;rw[List.getElem?_replicate,zU (by exact lB 0x7060412100016041204121000 tT hv)]
theorem tkn_ex:∀(lot:List (List Int))(p:P)(done:List (List Int))(w:Nat->Nat)(r h:Nat),Inv tr done w r h p->(∀c∈lot,ClOk tr c)->done.length+lot.length<=50->∃p' w',Tkn (tr.length+1) lot p p'/\Inv tr (done++lot) w' r p'.tr.length p'/\(∃t,p'.tr=p.tr++t)/\p'.us=p.us:=by
 intro v;induction v with|nil=>
  intro p done w r h I _ hl;refine xea5 (prop_ex (tr.length-h) h p (yO _) I.i0 I.un I.wt I.hd I.hh (by rw[I.dl];simp at hl;exact lA 0x70623320006436200 tT hl)) fun p' h1 h2 h3 h4 k h6=>?_;refine⟨p',w,.nil h1,⟨h2,h3,h4,yO _,h6,I.i1.kp k,k.hP▸I.hP,fun c hc=>?_,by rw[k.len,yS];exact I.dl⟩,k.pre,k.us⟩;rw[yS]at hc;refine xe2a (I.dn c hc) fun n d hd q=>?_;have hn:n<p'.cl.length:=by rw[k.len];exact idx_lt hd
  refine xea (k.perm n _ (zH hn)) fun d0 hd0 q0=>?_;rw[hd]at hd0;cases hd0;exact⟨n,_,zH hn,q.trans q0⟩|cons c lot ih=>
  intro p done w r h I hc hl;rw[List.length_cons]at hl;have hcc:=hc c (zF ..);refine xa4 (add_ex I.i0 I.un I.wt I.hh hcc) fun co i0 un wt k=>?_;refine xea k.cl fun c' hcl hperm=>?_;have hle:p.tr.length<=(addP p c).tr.length:=by obtain⟨t,e⟩:=k.pre;rw[e,zJ];exact lB 0x70604100000 tT
  have I':Inv tr (done++[c]) (fun s=>if s=p.ps.length then 1 else w s) r h (addP p c):=by
   refine⟨i0,un,wt,zE I.hh hle,k.hd.trans I.hd,I.i1.add k hcc,k.hP.trans I.hP,fun x hx=>?_,by rw[hcl,zJ,zJ,I.dl];rfl⟩;clear hc hcc co i0 un wt k hle;rcases yV.mp hx with hx|hx;.refine xe2a (I.dn x hx) fun n d hd q=>?_;exact⟨n,d,by rw[hcl,zZ (idx_lt hd)];exact hd,q⟩
   .rw[zD]at hx;subst hx;exact⟨p.cl.length,c',by rw[hcl];simp,hperm⟩
  refine xe2a3 (ih (addP p c) (done++[c]) _ r h I' (fun x hx=>hc x (zI _ hx)) (by rw[zJ,List.length_singleton];exact lB 0x706233204041210000623320410041200 tT hl)) fun p' w' t I2 hp hus=>?_;have hcl100:p.cl.length<=100:=by rw[I.dl];exact lB 0x7062332040412100006436200 tT hl
  have htl:=I.i0.tl;have hn5:=I.i0.n5;have hrl:=I.i1.rl;have hpl:=I.i1.pl;have hsp:=I.i1.lsp;refine⟨p',w',.cons (I.i0.vsz hcl100 fun x hx=>zE (I.wt.wl hcl100 x hx) (by exact lA 0x7064362000603233200 tT hcl100)) (by exact lB 0x7261000064362100603233200 tT hcl100 hsp) (by exact lE 0x70604401000062040065230063020064362100603233200 tT hcl100 htl hn5 hrl hpl) co t,by rw[List.append_assoc]at I2;exact I2,?_⟩;obtain⟨t1,e1⟩:=hp;obtain⟨t2,e2⟩:=k.pre;exact⟨⟨t2++t1,by rw[e1,e2,List.append_assoc]⟩,hus.trans k.us⟩
theorem complete{r:Nat}(I:Inv tr done w r p.tr.length p):∀(k i:Nat)(l:Int),i<k->(∀j,j<=i->KOk tr done j)->tr[i]?=some l->l∈p.tr:=by
 intro k;induction k with|zero=>intro i l h;exact absurd h (Nat.not_lt_zero _)|succ k ih=>
  intro i l hi hk hl;refine xea2 (hk i (yO _) l hl) fun c hc hlc ho=>?_;refine xe2a (I.dn c hc) fun n d hd q=>?_;have hld:=q.mem_iff.mp hlc;have ho':∀x∈d,x=l\/-x∈p.tr:=fun x hx=>(ho x (q.mem_iff.mpr hx)).imp id fun q=>q.elim fun j q=>ih j (-x) (by exact lC 0x71620001604121020161000 tT hi q.1) (fun j' hj'=>hk j' (by exact lC 0x7062000161020061000 tT q.1 hj')) q.2;have cx:=I.i0.cl n d hd;clear q ho;cases d with|nil=>cases hld|cons a d=>cases d with|nil=>exact I.un n [a] l hd rfl hld|cons b s=>
      have da:=cx.da;unfold DA at da;rw[yT]at da;have hab:a≠b:=fun e=>da.1 b (zF ..) (by rw[e]);have w4:=I.wt.w4 n _ a b hd (by simp) (wat_cons.mpr (.inl rfl)) (wat_cons.mpr (.inr rfl)) hab;have w4':=I.wt.w4 n _ b a hd (by simp) (wat_cons.mpr (.inr rfl)) (wat_cons.mpr (.inl rfl)) hab.symm;rw[List.take_length]at w4 w4';clear hl hlc hd hld cx;rcases ho' a (by simp)with rfl|ha
      . rcases ho' b (by simp)with rfl|hb;.exact absurd rfl hab
        .exact w4' hb
      . have hb:=w4 ha;rcases ho' b (by simp)with rfl|hb';.exact hb
        .exact absurd hb' (I.i0.opp hb)
noncomputable def sOf(p:P)(y:Int):Nat:=((p.us.getD y.natAbs none).getD 0).toNat
noncomputable def rootF(p:P):P:=let lit:=p.tr.getD p.rt.toNat 0;let n:=(p.rea.getD lit.natAbs 0).toNat;rootP p p.rt.toNat lit (p.sp.getD n 0).toNat (((srtA (p.cl.getD n [])).filter fun y=>y≠lit).map fun y=>(y,sOf p y))
theorem red_eq:∀(l:List (Int×Nat))(c:List Int),red c l=c.filter fun y=>decide (∀x∈l,y≠x.1):=by
 intro v;induction v with
 |nil=>
  intro c;show c=_;rw[List.filter_eq_self.mpr];intro a _;simp|cons x r ih=>
  intro c;show red (c.filter fun y=>y≠x.1) r=_;rw[ih,List.filter_filter];congr 1;funext y;by_cases h:y=x.1<;>simp[h]
theorem only:∀{c:List Int},c.Nodup->lit∈c->(∀x∈c,x=lit)->c=[lit]
 |[a],_,h,_=>by rw[zD]at h;rw[h]|a::b::r,n,_,h=>by
  have h1:=h a (by simp);have h2:=h b (by simp);rw[List.nodup_cons]at n;exact absurd (by rw[h1,h2];simp) n.1
theorem SA.nodup(h:SA c):c.Nodup:=List.Pairwise.imp (fun{a b}hab e=>by subst e;exact Nat.lt_irrefl _ hab) h
variable{c:Nat}
theorem redOk_of:∀(l:List (Int×Nat))(c:List Int),(l.map (·.1)).Nodup->(∀x∈l,x.1∈c)->(∀x∈l,∃st:PS,ps[x.2]?=some st/\st.cl=[-x.1])->redOk ps c l:=by
 intro v;induction v with
 |nil=>
  intro _ _ _ _;exact trivial|cons x r ih=>
  intro c n h1 h2;rw[List.map_cons,List.nodup_cons]at n;refine⟨h1 x (zF ..),h2 x (zF ..),ih _ n.2 (fun y hy=>?_) fun y hy=>h2 y (zI _ hy)⟩;refine yM.mpr ⟨h1 y (zI _ hy),decide_eq_true fun e=>n.1 ?_⟩;rw[<-e];exact List.mem_map_of_mem hy
theorem sum_le{f:Int->Nat}{B:Nat}:∀(l:List Int),(∀y∈l,f y<=B)->(l.map f).sum<=l.length*B:=by
 intro v;induction v with
 |nil=>
  intro _;exact yA _|cons a r ih=>
  intro h;have :=ih fun y hy=>h y (zI _ hy);have :=h a (zF ..);rw[List.map_cons,List.sum_cons,List.length_cons,Nat.succ_mul];lia
theorem I0.root(h:I0 tr p)(r:Nat)(lit:Int)(f:Nat)(prs:List (Int×Nat)):I0 tr (rootP p r lit f prs):=by
 unfold rootP;split<;>exact⟨h.ok,h.n5,h.st,h.la,h.lr,h.lw,h.sub,h.nd,h.va,h.cl,h.rs,h.rN⟩
theorem root_fields(r:Nat)(lit:Int)(f:Nat)(prs:List (Int×Nat)):(rootP p r lit f prs).tr=p.tr/\(rootP p r lit f prs).cl=p.cl/\(rootP p r lit f prs).ws=p.ws/\(rootP p r lit f prs).hd=p.hd/\(rootP p r lit f prs).hP=p.hP/\(rootP p r lit f prs).sp=p.sp/\(rootP p r lit f prs).rt=(r+1:Nat)/\(rootP p r lit f prs).rea=p.rea:=by
 unfold rootP;split<;>exact⟨rfl,rfl,rfl,rfl,rfl,rfl,rfl,rfl⟩
theorem pow4{r:Nat}(h:1<=r):2+2*4^(r-1)<=4^r:=by
 obtain⟨m,rfl⟩:∃m,r=m+1:=⟨r-1,by exact lB 0x780812500041210818005041210002604121000 tT (le_sub_ad _ _) (yC (lA 0x7060012060012 tT h))⟩;have :1<=4^m:=Nat.one_le_pow _ _ (by decide);rw[Nat.add_sub_cancel,Nat.pow_succ];exact lA 0x78282050012062442000414220022 tT this
theorem root_ex{r:Nat}(I:Inv tr done w r h p)(hr:r<p.tr.length):∃lit n f l prs st w',p.tr[r]?=some lit/\RStep p r lit n f l prs st/\rootF p=rootP p r lit f prs/\Inv tr done w' (r+1) h (rootP p r lit f prs):=by
  obtain⟨lit,hlit⟩:∃lit,p.tr[r]?=some lit:=⟨_,zH hr⟩;refine xe2a3 (I.i0.rs r lit hlit) fun n c hrea hc hlc ho=>?_;refine xe3a4 (I.i1.sp n c hc) fun f c0 kk hsp hps hsa hperm hw1=>?_;have cx:=I.i0.cl n c hc;have hs:srtA c=c0:=srtA_of hsa hperm.symm;have hlt:=yB hlit;have hab:=I.i0.abs hlt;have eld:∀y∈c0.filter (fun y=>y≠lit),∃i,i<r/\p.tr[i]?=some (-y)/\p.us[y.natAbs]?=some (some (sOf p y:Int))/\(∃st:PS,p.ps[sOf p y]?=some st/\st.cl=[-y])/\w (sOf p y)<=4^(r-1):=fun y hy=>by
    obtain⟨hy1,hy2⟩:=yM.mp hy;have hyc:=hperm.mem_iff.mp hy1;have hin:=ho y hyc (zW hy2);obtain⟨i,hi,e⟩:=yI hin;rw[List.length_take]at hi;rw[List.getElem_take]at e;have hti:p.tr[i]?=some (-y):=zM.mpr ⟨by exact lD 0x7062030163000161020161000 tT hr hi (Nat.min_le_left _ _),e⟩;refine xe2a3 (I.i1.us1 i (-y) (by exact lC 0x7061020162000161000 tT hi (Nat.min_le_left _ _)) hti) fun s st a b d e2=>?_;rw[Int.natAbs_neg]at a;have es:sOf p y=s:=by
      unfold sOf;rw[zO,a];simp
    rw[es];exact⟨i,by exact lC 0x7061020162000161000 tT hi (Nat.min_le_left _ _),hti,a,⟨st,b,d⟩,zE e2 (Nat.pow_le_pow_right (by decide) (by exact lD 0x70630200604121030162000061000 tT hi (le_sub_ad _ _) (Nat.min_le_left _ _)))⟩
  generalize hprs:(c0.filter (fun y=>y≠lit)).map (fun y=>(y,sOf p y))=prs;have hfst:prs.map (·.1)=c0.filter (fun y=>y≠lit):=by rw[<-hprs,List.map_map];simp[Function.comp_def]
  have hmem:∀x∈prs,x.1∈c0.filter (fun y=>y≠lit)/\x.2=sOf p x.1:=fun x hx=>by
    rw[<-hprs]at hx;refine xea (yE.mp hx) fun y hy e_2=>?_;subst e_2;exact⟨hy,rfl⟩
  have hnd:(c0.filter (fun y=>y≠lit)).Nodup:=hsa.nodup.filter _;have ok:redOk p.ps c0 prs:=redOk_of prs c0 (hfst▸hnd) (fun x hx=>(yM.mp (hmem x hx).1).1) fun x hx=>by
    obtain⟨h1,h2⟩:=hmem x hx;refine xea4 (eld x.1 h1) fun _ _ _ _ h3 _=>?_;rw[h2];exact h3
  have hlc0:lit∈c0:=hperm.mem_iff.mpr hlc;have fin:red c0 prs=[lit]:=by
    rw[red_eq];have q:(c0.filter fun y=>decide (∀x∈prs,y≠x.1)).Nodup:=hsa.nodup.filter _;refine only q (yM.mpr ⟨hlc0,decide_eq_true fun x hx e=>?_⟩) fun x hx=>?_
    .have :=(yM.mp (hmem x hx).1).2;rw[<-e]at this;simp at this
    . obtain⟨h1,h2⟩:=yM.mp hx;have h2:=zW h2;refine Decidable.byContradiction fun e=>?_;have hxf:x∈prs.map (·.1):=by rw[hfst];exact yM.mpr ⟨h1,decide_eq_true e⟩
      clear hx h1 e;refine xea (yE.mp hxf) fun z hz e_2=>?_;subst e_2;exact h2 z hz rfl
  have st1:RStep p r lit n f c prs (.inp c0 kk):=⟨I.i1.rt,hlit,hrea,hc,cx.da,cx.len,cx.z,by rw[hfst,hs],fun x hx=>by obtain⟨h1,h2⟩:=hmem x hx;refine xea3 (eld x.1 h1) fun _ _ _ h3 _=>?_;rw[h2];exact h3,by rw[I.i1.lus];exact lB 0x706100016041204121000 tT hab.2,hsp,hps,hs.symm,hs.symm▸ok,hs.symm▸fin⟩;have erF:rootF p=rootP p r lit f prs:=by
    unfold rootF;have e1:p.rt.toNat=r:=by rw[I.i1.rt,yY]
    have e2:p.tr.getD r 0=lit:=by rw[zO,hlit];rfl
    have e3:p.rea.getD lit.natAbs 0=(n:Int):=by rw[zO,hrea];rfl
    have e4:p.cl.getD n []=c:=by rw[zO,hc];rfl
    have e5:p.sp.getD n 0=(f:Int):=by rw[zO,hsp];rfl
    simp only[e1,e2,e3,yY,e4,e5,hs,hprs]
  clear hrea hlc ho hfst hnd ok;refine xa7 (root_fields (p:=p) r lit f prs) fun g1 g2 g3 g4 g5 g6 g7 g8=>?_;have hfl:=idx_lt hps;have key:∃w' s,(∀x,x<p.ps.length->w' x=w x)/\(rootP p r lit f prs).us=p.us.set lit.natAbs (some ((s:Nat):Int))/\(∃t,(rootP p r lit f prs).ps=p.ps++t/\t.length<=1)/\(∃st:PS,(rootP p r lit f prs).ps[s]?=some st/\st.cl=[lit])/\w' s<=4^r/\PsOk (tr.length+1) (rootP p r lit f prs).ps w':=by
    unfold rootP;by_cases hp:prs=[]
    .rw[zU hp];refine⟨w,f,fun _ _=>rfl,rfl,⟨[],(yS _).symm,yA _⟩,⟨_,hps,?_⟩,zE hw1 (Nat.one_le_pow _ _ (by decide)),I.i1.ok⟩;rw[hp]at fin;exact fin
    . rw[zN hp];have hlen:prs.length<=2:=by
        have h1:(c0.filter (fun y=>y≠lit)).length<c0.length:=by
          rcases Nat.lt_or_eq_of_le (List.length_filter_le (fun y=>decide (y≠lit)) c0)with q|q;.exact q
          .have :=List.length_filter_eq_length_iff.mp q lit hlc0;simp at this
        have h2:=hperm.length_eq;have h3:=cx.len;rw[<-hprs,zA];exact lC 0x7063220262010161000062200 tT h1 h2 h3
      have hr1:1<=r:=by
        clear fin st1 erF g1 g2 g3 g4 g5 g6 g7 g8 hlen;cases prs with|nil=>exact absurd rfl hp|cons x _=>
     refine xea (eld x.1 (hmem x (by simp)).1) fun i hi _=>?_;exact lB 0x7160010060012 tT hi
      have hwf:∀x,x<p.ps.length->(if x=p.ps.length then 4^r else w x)=w x:=fun x hx=>zN (Nat.ne_of_lt hx);have hpr:∀y∈((f:Int)::prs.map fun x=>(x.2:Int)),∃m:Nat,y=m/\m<p.ps.length:=fun y hy=>by
        rcases zL.mp hy with rfl|hy;.exact⟨f,rfl,hfl⟩
        .refine xea (yE.mp hy) fun x hx e_2=>?_;subst e_2;obtain⟨h1,h2⟩:=hmem x hx;refine xea4 (eld x.1 h1) fun _ _ _ _ q_4 _=>?_;obtain⟨st,h3,_⟩:=q_4;exact⟨x.2,rfl,by rw[h2];exact idx_lt h3⟩
      refine⟨fun x=>if x=p.ps.length then 4^r else w x,p.ps.length,hwf,rfl,⟨_,rfl,yO _⟩,⟨_,List.getElem?_concat_length,rfl⟩,(by show(if p.ps.length=p.ps.length then 4^r else _)<=_;rw[zU rfl];exact yO _),?_⟩;refine I.i1.ok.more hwf hpr ?_ (.inr fun A hA hp'=>?_) ⟨by show[lit].length<=3;simp,fun x hx=>?_⟩
      . show 1+(((f:Int)::prs.map fun x=>(x.2:Int)).map fun y=>w y.toNat).sum<=(if p.ps.length=p.ps.length then 4^r else _);rw[zU rfl,List.map_cons,List.sum_cons,yY];have hsum:=sum_le (f:=fun y=>w y.toNat) (B:=4^(r-1)) (prs.map fun x=>(x.2:Int)) fun y hy=>by
          refine xea (yE.mp hy) fun x hx e_2=>?_;subst e_2;obtain⟨h1,h2⟩:=hmem x hx;refine xea4 (eld x.1 h1) fun _ _ _ _ _ h3=>?_;show w x.2<=_;rw[h2];exact h3
        rw[zA]at hsum;have h2:prs.length*4^(r-1)<=2*4^(r-1):=Nat.mul_le_mul_right _ hlen;have :=pow4 hr1;exact lE 0x706200414224022061422403006301006120006200404100012 tT hw1 hsum h2 this
      . have h1:=hp' f (zF ..) _ (by rw[yY];exact hps);clear hlit hlt hab hmem hlc0 fin st1 erF g1 g2 g3 g4 g5 g6 g7 g8;refine xea (List.any_eq_true.mp h1) fun x hx hAx=>?_;by_cases e:x=lit
        .clear eld hp';subst e;show[x].any A=true;simp[hAx]
        . have hxf:x∈c0.filter (fun y=>y≠lit):=yM.mpr ⟨hx,decide_eq_true e⟩;refine xea4 (eld x hxf) fun _ _ _ _ q_4 _=>?_;obtain⟨st,h3,h4⟩:=q_4;have hxm:(x,sOf p x)∈prs:=by rw[<-hprs];exact List.mem_map_of_mem (f:=fun y=>(y,sOf p y)) hxf
          have :=hp' (sOf p x) (zI _ (List.mem_map_of_mem (f:=fun z:Int×Nat=>(z.2:Int)) hxm)) st (by rw[yY];exact h3);rw[h4]at this;have hx0:x≠0:=cx.z x (hperm.mem_iff.mp hx);simp[hA x hx0,hAx]at this
      .rw[zD.mp hx];lia
  clear eld g8;refine xe2a5 key fun w' s hw' hus q_4 q_5 hws hok=>?_;obtain⟨t,hpst,htl⟩:=q_4;obtain⟨st,hst,hstc⟩:=q_5;refine⟨lit,n,f,c,prs,_,w',hlit,st1,erF,⟨I.i0.root ..,fun m d x hd=>g1▸I.un m d x (g2▸hd),⟨fun q w n hw hn=>?_,fun m d x hd=>?_,fun q w hw=>I.wt.w3 q w (g3▸hw),fun m d x y hd h2 hx hy hne hin=>g1▸I.wt.w4 m d x y (g2▸hd) h2 hx hy hne (g1▸hin)⟩,g1▸I.hh,g4▸I.hd,?_,g5▸I.hP,fun c hc=>g2▸I.dn c hc,g2▸I.dl⟩⟩;.rw[g2];exact I.wt.w1 q w n (g3▸hw) hn
  .rw[g3];exact I.wt.w2 m d x (g2▸hd)
  . have pget:∀{i:Nat}{st:PS},p.ps[i]?=some st->(rootP p r lit f prs).ps[i]?=some st:=fun h=>by rw[hpst,zZ (idx_lt h)];exact h
    have hneq:∀i l,i<r->p.tr[i]?=some l->lit.natAbs≠l.natAbs:=fun i l hi hl e=>by
      obtain⟨i1,h1,e1⟩:=yI (I.i0.sub _ hlt);obtain⟨i2,h2,e2⟩:=yI (I.i0.sub _ (yB hl));have :=(I.i0.ok.inj (zM.mpr ⟨h1,e1⟩) (zM.mpr ⟨h2,e2⟩) e).2;clear e e2;subst this;obtain⟨a,ea⟩:=zM.mp hlit;obtain⟨b,eb⟩:=zM.mp hl;have :=(List.getElem_inj I.i0.nd).mp (ea.trans eb.symm);exact lB 0x72600101610008080650202 tT hi this
    refine⟨by rw[g6,g2];exact I.i1.lsp,fun m d hd=>?_,by rw[hus,yD];exact I.i1.lus,g7,by rw[g1];exact hr,by rw[hpst,g2,zJ];have :=I.i1.pl;exact lD 0x70604302000061210060404123020041000 tT htl this,fun i l hi hl=>?_,fun v hv hx=>?_,hok⟩
    .rw[g2]at hd;refine xe3a4 (I.i1.sp m d hd) fun f' c1 k1 a b d e g=>?_;exact⟨f',c1,k1,g6▸a,pget b,d,e,by rw[hw' f' (idx_lt b)];exact g⟩
    . rw[g1]at hl;rw[hus];clear hr st1 erF g2 g3 g4 g5 g6 g7 hus hpst hok;rcases Nat.lt_succ_iff_lt_or_eq.mp hi with q|rfl
      .refine xe2a3 (I.i1.us1 i l q hl) fun s' st' a b d e=>?_;exact⟨s',st',(zK (hneq i l q hl)).trans a,pget b,d,by rw[hw' s' (idx_lt b)];exact e⟩
      .rw[hlit]at hl;cases hl;exact⟨s,st,zP (by rw[I.i1.lus];exact lB 0x706100016041204121000 tT hab.2),hst,hstc,hws⟩
    .rw[hus];have hvl:lit.natAbs≠v:=hx r lit (xA r) (by rw[g1];exact hlit);rw[zK hvl];exact I.i1.us0 v hv fun i l hi hl=>hx i l (Nat.lt_succ_of_lt hi) (by rw[g1];exact hl)
noncomputable def stepsF:Nat->P->P|0,p=>p|n+1,p=>stepsF n (rootF p)
theorem stepsF_add:∀(a b:Nat)(p:P),stepsF (a+b) p=stepsF b (stepsF a p):=by
 intro v;induction v with
 |zero=>
  intro b p;rw[Nat.zero_add];rfl|succ a ih=>
  intro b p;rw[Nat.add_right_comm];exact ih b (rootF p)
theorem root_lv(r:Nat)(lit:Int)(f:Nat)(prs:List (Int×Nat)):rootP (lvP N p) r lit f prs=lvP N (rootP p r lit f prs):=by
 unfold rootP;split<;>rfl
theorem root_us(r:Nat)(lit:Int)(f:Nat)(prs:List (Int×Nat)):∃s,(rootP p r lit f prs).us=p.us.set lit.natAbs (some s):=by
 unfold rootP;split;.exact⟨_,rfl⟩
 .exact⟨_,rfl⟩
theorem RStep.lv{r f:Nat}(h:RStep p r lit n f l prs st)(hN:lit.natAbs≠N):RStep (lvP N p) r lit n f l prs st:=by
 refine⟨h.rt,?_,?_,h.cl,h.da,h.len,h.z,h.hprs,h.us,h.ul,h.sp,h.ps,h.stc,h.ok,h.fin⟩
 .show(p.tr++[(N:Int)])[r]?=_;rw[zZ (idx_lt h.tr)];exact h.tr
 .show(p.rea.set (N:Int).natAbs (-1))[lit.natAbs]?=_;rw[Int.natAbs_natCast,zK (Ne.symm hN)];exact h.rea
variable{l:Nat}
theorem Inv.rsz{r:Nat}(I:Inv tr done w r h p)(hd:done.length<=50):RSz p/\RSz (lvP (tr.length+1) p):=by
 have h1:=I.i0.tl;have h2:=I.i0.n5;have h3:=I.i0.lr;have h4:=I.i1.lus;have h5:=I.dl;have h6:=I.i1.lsp;have h7:=I.i1.pl;have h8:=I.i1.rl;refine⟨⟨by exact lB 0x70652100610000643833200 tT h1 h2,by exact lB 0x7260412041210000652100643833200 tT h2 h3,by exact lB 0x7260412041210000652100643833200 tT h2 h4,by exact lB 0x7261000062332100643833200 tT hd h5,by exact lC 0x7262000261020062332100643833200 tT hd h5 h6,by exact lin [_,_,_,_,_,_] [] 0x70620500604504000261040065230063020062332100603233200 tT hd h1 h2 h5 h7 h8⟩,⟨?_,?_,by show p.us.length<=_;exact lB 0x7260412041210000652100643833200 tT h2 h4,by show p.cl.length<=_;exact lB 0x7261000062332100643833200 tT hd h5,by show p.sp.length<=_;exact lC 0x7262000261020062332100643833200 tT hd h5 h6,by show p.ps.length<=_;exact lin [_,_,_,_,_,_] [] 0x70620500604504000261040065230063020062332100603233200 tT hd h1 h2 h5 h7 h8⟩⟩;.show(p.tr++[_]).length<=_;rw[zJ,List.length_singleton];exact lB 0x706521006100006438332041200 tT h1 h2
 .show(p.rea.set _ _).length<=_;rw[yD];exact lB 0x7260412041210000652100643833200 tT h2 h3
theorem Inv.us_none{r:Nat}(I:Inv tr done w r h p)(hi:p.tr[i]?=some lit)(hr:r<=i):p.us[lit.natAbs]?=some none:=by
 have hab:=I.i0.abs (yB hi);refine I.i1.us0 _ (by exact lB 0x70610000604121000 tT hab.2) fun j l hj hl e=>?_;obtain⟨i1,h1,e1⟩:=yI (I.i0.sub _ (yB hi));obtain⟨i2,h2,e2⟩:=yI (I.i0.sub _ (yB hl));have :=(I.i0.ok.inj (zM.mpr ⟨h1,e1⟩) (zM.mpr ⟨h2,e2⟩) e.symm).2;clear e e2;subst this;obtain⟨a,ea⟩:=zM.mp hi;obtain⟨b,eb⟩:=zM.mp hl;have :=(List.getElem_inj I.i0.nd).mp (ea.trans eb.symm);exact lC 0x72620101600200610008080650202 tT hr hj this
structure Ku(p p1:P):Prop where
 tr:p1.tr=p.tr
 us:∀(v:Nat)(s:Int),p.us[v]?=some (some s)->p1.us[v]?=some (some s)
theorem ask_ex(hd:done.length<=50):∀(m r:Nat)(w:Nat->Nat)(p:P),m=i+1-r->Inv tr done w r h p->p.tr[i]?=some lit->∃w',Rt lit.natAbs p (stepsF m p)/\Rt lit.natAbs (lvP (tr.length+1) p) (lvP (tr.length+1) (stepsF m p))/\Inv tr done w' (r+m) h (stepsF m p)/\Ku p (stepsF m p)/\∃(s:Nat)(st:PS),(stepsF m p).us[lit.natAbs]?=some (some (s:Int))/\(stepsF m p).ps[s]?=some st/\st.cl=[lit]/\w' s<=4^i:=by
 intro v;induction v with|zero=>
  intro r w p hm I hi;refine xe2a3 (I.i1.us1 i lit (by exact lC 0x7060410200412007f7f252002161000 tT hm (le_sub_ad _ _)) hi) fun s st a b c d=>?_;obtain⟨z1,z2⟩:=I.rsz hd;exact⟨w,.done a z1,.done (p:=lvP (tr.length+1) p) a z2,I,⟨rfl,fun _ _ h=>h⟩,s,st,a,b,c,d⟩|succ m ih=>
  intro r w p hm I hi;have hr:r<=i:=Nat.le_of_lt_succ (Nat.sub_pos_iff_lt.mp (hm▸Nat.succ_pos m));have hrl:r<p.tr.length:=Nat.lt_of_le_of_lt hr (idx_lt hi);refine xe7a3 (root_ex I hrl) fun lt n f l prs st w1 hlt s1 e1 I1=>?_;obtain⟨g1,_⟩:=root_fields (p:=p) r lt f prs;obtain⟨z1,z2⟩:=I.rsz hd;have hab:=I.i0.abs (yB hlt);refine xea4 (ih (r+1) w1 (rootP p r lt f prs) (by exact lE 0x781802504123004402080810504402004123080812504123004041240108180050404124010041230817f2520041200261000 tT hm (le_sub_ad _ _) (yC (lB 0x706100006041210041200 tT hr)) (le_sub_ad _ _) (yC (lB 0x70610000604121000 tT hr))) I1 (by rw[g1];exact hi)) fun w' a1 a2 a3 a4 a5=>?_;have e2:stepsF (m+1) p=stepsF m (rootP p r lt f prs):=by show stepsF m (rootF p)=_;rw[e1]
  rw[e2];have un:=I.us_none hi hr;refine⟨w',.step un z1 s1 a1,.step (p:=lvP (tr.length+1) p) un z2 (s1.lv (by exact fun e=>lB 0x77f7f25041210000610008080650202 tT hab.2 e)) (by rw[root_lv];exact a2),by rw[show r+(m+1)=r+1+m by exact lB 0x72604100412000404121000 tT];exact a3,⟨a4.tr.trans g1,fun v s hv=>a4.us v s ?_⟩,a5⟩;obtain⟨s',hs'⟩:=root_us (p:=p) r lt f prs;rw[hs'];have :lt.natAbs≠v:=fun e=>by
   have :=I.us_none hlt (yO _);rw[e,hv]at this;cases this
  rw[zK this];exact hv
noncomputable def Lb:Bool->Nat->P->P|true,N,p=>lvP N p|false,_,p=>p
theorem Lb_us(b:Bool)(N:Nat)(p:P):(Lb b N p).us=p.us:=by cases b<;>rfl
theorem Lb_ps(b:Bool)(N:Nat)(p:P):(Lb b N p).ps=p.ps:=by cases b<;>rfl
structure Td(tr:List Int)(p:P)(kvs:List (Int×Val)):Prop where
 nd:(kvs.map (·.1)).Nodup
 m:∀x∈kvs,x.1∈tr/\∃s:Int,x.2=.int s/\p.us[x.1.natAbs]?=some (some s)
theorem Td.up(t:Td tr p kvs)(k:Ku p p1):Td tr p1 kvs:=⟨t.nd,fun x hx=>(t.m x hx).imp id fun q=>q.imp fun s q=>⟨q.1,k.us _ _ q.2⟩⟩
theorem lk_some{i:Int}{x:Val}:∀{l:List (Int×Val)},l.lookup i=some x->(i,x)∈l:=by
 intro v;induction v with
 |nil=>
  intro h;cases h|cons b0 r ih=>
  obtain⟨a,b⟩:=b0;intro h;rw[yK]at h;split at h
  .rename_i e;cases h;rw[yG]at e;subst e;exact zF ..
  .exact zI _ (ih h)
theorem lk_none{i:Int}:∀{l:List (Int×Val)},l.lookup i=none->i∉l.map (·.1):=by
 intro v;induction v with
 |nil=>
  intro _;exact nofun|cons b0 r ih=>
    obtain⟨a,b⟩:=b0;intro h;rw[yK]at h;split at h;.cases h
    . rename_i e;rw[List.map_cons,zL];rintro(z|z);.subst z;simp at e
      .exact ih h z
def FrR(k:Nat)(S S':AS):Prop:=∀t,(match t with|.core k' _=>k'≠k|.tmp _ _=>False|.law i=>i<9)->S'.H t=S.H t
theorem FrR.refl:FrR k S S:=fun _ _=>rfl
theorem FrR.trans(a:FrR k S S')(b:FrR k S' S''):FrR k S S'':=fun t h=>(b t h).trans (a t h)
theorem Fr.r(a:Fr D0 k l S S'):FrR k S S':=fun t ht=>a t (by
 cases t with|core k' x=>exact .inl ht|tmp i n=>exact ht.elim|law i=>trivial)
theorem FrW.r(a:FrW S S'):FrR k S S':=fun t ht=>a t (by
 cases t with|core k' x=>trivial|tmp i n=>trivial|law i=>exact Nat.lt_succ_of_lt ht)
variable{r:Nat}
theorem satL_opp(i:Nat):Opp (satL i):=fun x hx=>by
 unfold satL;rw[Int.natAbs_neg];by_cases c:0<x;.rw[decide_eq_true c,yR (by exact fun e=>lZ 0x746440201024601028080650202 tT c e)];cases Nat.testBit i (x.natAbs-1)<;>rfl
 .rw[yR c,decide_eq_true (by exact(Int.lt_or_gt_of_ne hx).elim (fun a=>lZ 0x74602014644020102 tT a) fun a=>lZ 0x746010236020180804544020102 tT (Int.not_lt.mp c) a)];cases Nat.testBit i (x.natAbs-1)<;>rfl
theorem s_right(hd:8<=d){hh:Nat}(b:Bool)(h3:3<=tr.length)(I:Inv tr done w r hh p)(hd5:done.length<=50)(hi:p.tr[i]?=some lit)(h:HasG S k g (Lb b (tr.length+1) p) j)(ht:S.H (.law 9)=some (v9,.dictI kvs))(td:Td tr p kvs)(q:∀S' kvs',HasG S' k g (Lb b (tr.length+1) (stepsF (i+1-r) p)) j->S'.H (.law 9)=some (v9,.dictI kvs')->Td tr (stepsF (i+1-r) p) kvs'->lit∈kvs'.map (·.1)->(∀x∈kvs.map (·.1),x∈kvs'.map (·.1))->FrR k S S'->Q (.bool true) S'):Y.C d .right [lo k g .core,.int lit,.int (tr.length+1:Nat),.loc (.law 9) v9] S Q:=by
  refine Y.run 2 (zE (nb rfl) hd) (by decide) rfl ?_;refine xea4e2a3 (ask_ex (i:=i) (lit:=lit) hd5 _ r w p rfl I hi) fun w' r1 r2 I' ku s st hus hst hcl hws=>?_;generalize hp':stepsF (i+1-r) p=p' at r1 r2 I' ku hus hst q;have hlt:=yB hi;have hltr:=I.i0.sub _ hlt;have hab:=I.i0.abs hlt;have h5:=I.i0.n5;have rr:Rt lit.natAbs (Lb b (tr.length+1) p) (Lb b (tr.length+1) p'):=by clear h q;cases b<;>assumption
  have hus':(Lb b (tr.length+1) p').us[lit.natAbs]?=some (some (s:Int)):=by rw[Lb_us];exact hus
  have hul:(Lb b (tr.length+1) p').us.length<=900:=by rw[Lb_us,I'.i1.lus];exact lA 0x7065200064383320412041200 tT h5
  clear r1 r2 hlt;obtain⟨z1,z2⟩:=I'.rsz hd5;have zz:RSz (Lb b (tr.length+1) p'):=by clear h q rr hus' hul;cases b<;>assumption
  have hpsl:(Lb b (tr.length+1) p').ps.length<=800:=zz.ps;have hstb:(Lb b (tr.length+1) p').ps[s]?=some st:=by rw[Lb_ps];exact hst
  have okb:PsOk (tr.length+1) (Lb b (tr.length+1) p').ps w':=by rw[Lb_ps];exact I'.i1.ok
  refine⟨h.inst id rfl,?_⟩;refine s_unit Y (d:=d-1) (v:=lit.natAbs) (s:=s) (dd hd rfl) rr h hus' hul fun S1 H1 F1=>?_;refine⟨nb rfl,?_⟩;refine H1.get (a:=.proof) id rfl ?_;refine⟨H1.instP id rfl,?_⟩;refine s_p_size Y (d:=d-1) (dd hd rfl) H1 id id (lw hpsl rfl) ?_;refine⟨nb rfl,?_⟩;refine⟨H1.inst id rfl,?_⟩;refine s_unit Y (d:=d-1) (v:=lit.natAbs) (s:=s) (dd hd rfl) (Rt.done hus' zz) H1 hus' hul fun S2 H2 F2=>?_;refine r_ne false (beq_self_eq_true _) ?_;refine H2.get (a:=.proof) id rfl ?_;refine⟨H2.instP id rfl,?_⟩;refine s_p_size Y (d:=d-1) (dd hd rfl) H2 id id (lw hpsl rfl) ?_;refine r_ne false (beq_self_eq_true _) ?_;have ht2:S2.H (.law 9)=some (v9,.dictI kvs):=(F2 (.law 9) trivial).trans ((F1 (.law 9) trivial).trans ht);refine⟨⟨_,_,_,rfl,ht2⟩,?_⟩;have td':=td.up ku;have hkl:kvs.length<=5:=by
    have :=nodup_len _ tr td.nd fun x hx=>by
      refine xea (yE.mp hx) fun y hy e_2=>?_;clear hx;subst e_2;exact(td.m y hy).1
    rw[zA]at this;exact lB 0x7061000065210065200 tT h5 this
  have key:∀S3 kvs',HasG S3 k g (Lb b (tr.length+1) p') j->S3.H (.law 9)=some (v9,.dictI kvs')->Td tr p' kvs'->lit∈kvs'.map (·.1)->(∀x∈kvs.map (·.1),x∈kvs'.map (·.1))->FrR k S S3->wpSts (Y.E (d-1)) (match body_right with|.cons _ (.cons _ (.cons _ r))=>r|r=>r) [some (lo k g .core),some (.int lit),some (.int (tr.length+1:Nat)),some (.loc (.law 9) v9),some (.int s),some (.int (Lb b (tr.length+1) p').ps.length)] S3 (retQ Q):=by
    intro S3 kvs' H3 h93 td3 hin hsub F3;refine H3.get (a:=.proof) id rfl ?_;refine⟨H3.instP id rfl,?_⟩;refine s_p_clause Y (d:=d-1) (dd hd rfl) H3 id id (lw hpsl rfl) rfl hstb ?_;rw[hcl];refine⟨nb rfl,?_⟩;refine eqTup (a:=[lit]) (b:=[lit]) ?_;rw[decide_eq_true rfl];refine H3.get (a:=.proof) id rfl ?_;refine s_rested Y (d:=d-1) (dd hd rfl) H3 okb (lw hpsl rfl) hstb (zE hws ?_) fun S4 t v fs F4 hv hfl hfc hent=>?_;.have h1:=idx_lt hi;have h2:=I.i0.tl;exact zE (Nat.pow_le_pow_right (by decide) (by exact lC 0x7061020162000065210064200 tT h5 h1 h2:i<=4)) (by decide)
    refine s_follows Y (d:=d-1) (N:=tr.length+1) (l:=lit) (cs:=fs) (dd hd rfl) (by exact lA 0x70600320604120042 tT h3) (by exact lA 0x70652000662041200 tT h5) hab.1 (by exact lB 0x70610000604121000 tT hab.2) hv (lw hfl rfl) (fun c hc=>⟨lw (hfc c hc).1 rfl,(hfc c hc).2⟩) (fun n hn=>?_) ?_
    .have :=hent (satL n) (satL_opp n) hn;rw[hcl]at this;simpa using this
    .exact q S4 kvs' (F4.has H3) ((F4 (.law 9) (by decide)).trans h93) td3 hin hsub (F3.trans F4.r)
  have F02:FrR k S S2:=(F1.trans F2).r
  clear hi q hcl hab rr hus';cases hlk:kvs.lookup lit with|some x=>
    have hmem:=lk_some hlk;refine xaea (td'.m _ hmem) fun _ s' hx hs'=>?_;have :x=.int s:=by
      have hx:x=.int s':=hx;have hs':p'.us[lit.natAbs]?=some (some s'):=hs';rw[hus]at hs';cases hs';exact hx
    clear hx hs';subst this;have hsd:∀{K:VQ},K (.int s) S2->setDf (.loc (.law 9) v9) (.int lit) (.int s) S2 K:=fun{K}hK=>by
      exact .mk rfl rfl ht2 (by exact lA 0x70652000683e33200 tT hkl) (by rw[hlk];exact hK)
    refine hsd (r_ne false (beq_self_eq_true _) ?_);exact key S2 kvs H2 ht2 td' (List.mem_map_of_mem (f:=(·.1)) hmem) (fun _ h=>h) F02|none=>
    have hni:=lk_none hlk;have hsd:∀{K:VQ},K (.int s) (S2.put (.law 9) v9 (.dictI (kvs++[(lit,.int s)])))->setDf (.loc (.law 9) v9) (.int lit) (.int s) S2 K:=fun{K}hK=>by
      exact .mk rfl rfl ht2 (by exact lA 0x70652000683e33200 tT hkl) (by rw[hlk];exact hK)
    refine hsd (r_ne false (beq_self_eq_true _) ?_);refine key (S2.put (.law 9) v9 (.dictI (kvs++[(lit,.int s)]))) (kvs++[(lit,.int s)]) (fun x o n e=>(put_t (nD rfl)).trans (H2 x o n e)) put_eq ⟨?_,fun x hx=>?_⟩ (by simp) (fun x hx=>by rw[zV];exact yP _ hx) (F02.trans fun t ht=>put_t (by rintro rfl;exact absurd (show 9<9 from ht) (Nat.lt_irrefl 9)))
    .rw[zV];exact List.nodup_append.mpr ⟨td.nd,List.pairwise_singleton ..,fun x hx y hy e=>by rw[List.map_singleton,zD]at hy;subst hy;subst e;exact hni hx⟩
    . rcases yV.mp hx with hx|hx;.exact td'.m x hx
      .rw[zD]at hx;subst hx;exact⟨hltr,s,rfl,hus⟩
theorem Inv.lv(I:Inv tr done w r p.tr.length p):LvOk (tr.length+1) p:=by
  have h1:=I.i0.tl;have h2:=I.i0.n5;have eh:p.hP=-1::(List.range (tr.length+1)).map fun i:Nat=>(i:Int):=I.hP;refine⟨?_,I.i0.rN,I.hd,I.i0.st,I.i0.la,I.i0.lr,by exact lA 0x7065200064312041200 tT h2,by exact lB 0x706521006100006436200 tT h1 h2,⟨tr.length,?_,Int.natCast_nonneg _⟩,by rw[eh,List.length_cons,zA,yQ];exact lA 0x7065200060323320412041200 tT h2⟩
  . have :=I.i0.va (tr.length+1) (yO _);rw[zN (fun z=>by have :=(I.i0.abs z).2;exact lB 0x73654020054020412100610008080650202 tT this Int.le_natAbs),zN (fun z=>by have :=(I.i0.abs z).2;exact lB 0x77f7f554402440254020412105402000610008080650202 tT this (zT (lA 0x7360244025402041200 tT)))]at this;rw[zO]at this;have hl:tr.length+1<p.asg.length:=by rw[I.i0.la];exact lA 0x7160412041200041200 tT
    rw[zH hl]at this⊢;exact zG some this
  .rw[eh,List.getElem?_cons_succ,zX,List.getElem?_range (by exact lA 0x71604120000 tT)];rfl
theorem sa_ext:∀{l l':List Int},SA l->SA l'->(∀x,x∈l↔x∈l')->l=l'
 |[],[],_,_,_=>rfl|[],y::_,_,_,h=>by have :=(h y).mpr (by simp);cases this|x::_,[],_,_,h=>by have :=(h x).mp (by simp);cases this|x::r,y::q,h,h',hm=>by
    unfold SA at h h';rw[yT]at h h';have e:x=y:=by
      rcases zL.mp ((hm x).mp (by simp))with e|e;.exact e
      . rcases zL.mp ((hm y).mpr (by simp))with e'|e';.exact e'.symm
        .have :=h.1 y e';have :=h'.1 x e;lia
    subst e;have :r=q:=sa_ext h.2 h'.2 fun z=>by
      refine⟨fun hz=>?_,fun hz=>?_⟩
      . clear h';rcases zL.mp ((hm z).mp (zI _ hz))with e|e;.clear hm;subst e;exact absurd (h.1 z hz) (Nat.lt_irrefl _)
        .exact e
      . rcases zL.mp ((hm z).mpr (zI _ hz))with e|e;.clear hm;subst e;exact absurd (h'.1 z hz) (Nat.lt_irrefl _)
        .exact e
    rw[this]
theorem TrOk.sa(h:TrOk tr):SA tr:=by
 unfold SA;rw[List.pairwise_iff_getElem];intro i j hi hj hij;have h1:=h i _ (zH hi);have h2:=h j _ (zH hj);exact lD 0x77f7f25041230102604122000163020161000 tT hij h1 h2
noncomputable def PS.dat:PS->PyData|.inp c n=>.tuple [.str "input",.tuple (c.map .int),.tuple [],.int n]|.res c pr vs=>.tuple [.str "resolve",.tuple (c.map .int),.tuple (pr.map .int),.tuple (vs.map .int)]
theorem py_tints(l:List Int):(Val.tup (iL l)).py=some (.tuple (l.map .int)):=by
 show(pys (iL l)).map _=_;rw[pys_ints];rfl
theorem pys_cons{v:Val}{r:List Val}{d:PyData}(h:v.py=some d)(h':pys r=some ds):pys (v::r)=some (d::ds):=by
 rw[pys,h,h']
theorem py_ps(s:PS):s.val.py=some s.dat:=by
 cases s with|inp c n=>exact zG (Option.map PyData.tuple) (pys_cons rfl (pys_cons (py_tints c) (pys_cons (py_tints []) (pys_cons rfl rfl))))|res c pr vs=>exact zG (Option.map PyData.tuple) (pys_cons rfl (pys_cons (py_tints c) (pys_cons (py_tints pr) (pys_cons (py_tints vs) rfl))))
theorem pys_ps:∀l:List PS,pys (l.map PS.val)=some (l.map PS.dat):=by
 intro v;induction v with
 |nil=>
  exact rfl|cons a r ih=>
  exact pys_cons (py_ps a) ih
theorem lay_ps:∀l:List PS,PyData.canLayAll0 (l.map PS.dat)=true:=by
 intro v;induction v with
 |nil=>
  exact rfl|cons a r ih=>
  have h:=ih;have e1:PyData.strOk "input"=true:=by decide+kernel
  have e2:PyData.strOk "resolve"=true:=by decide+kernel
  cases a<;>simp[PS.dat,PyData.canLayAll0,PyData.canLay0,lay_ints,h,e1,e2]
theorem dep_ps:∀l:List PS,PyData.depthAll (l.map PS.dat)<=3
 |[]=>by simp[PyData.depthAll]|.inp c n::r=>by
  have :=dep_ps r;have :=depth_ints c;simp[PS.dat,PyData.depthAll,PyData.depth];lia|.res c pr vs::r=>by
  have :=dep_ps r;have :=depth_ints c;have :=depth_ints pr;have :=depth_ints vs;simp[PS.dat,PyData.depthAll,PyData.depth];lia
theorem mix_ps:∀l:List PS,SeqAt.noMixAll (l.map PS.dat) (l.map PS.dat)=true:=by
 intro v;induction v with
 |nil=>
  simp[SeqAt.noMixAll]|cons a r ih=>
  have h:=ih;cases a<;>simp[PS.dat,SeqAt.noMixAll,SeqAt.noMix,mix_ints,h]
theorem same_ps:∀l:List PS,PySem.Spec.sameAll (l.map PS.dat) (l.map PS.dat)=true:=by
 intro v;induction v with|nil=>
  simp[PySem.Spec.sameAll]|cons a r ih=>
  have h:=ih;cases a<;>simp[PS.dat,PySem.Spec.sameAll,PySem.Spec.same,same_ints,h]
theorem eqSteps{t:Tag}{l:List PS}(h:S.H t=some (v,.list (l.map PS.val)))(h':S.H t'=some (v',.list (l.map PS.val)))(q:Q (.bool false) S):eqOp true (.loc t v) (.loc t' v') S Q:=by
  refine .data (flat_list h (pys_ps l) (lay_ps l) (zE (dep_ps l) (by decide))) (flat_list h' (pys_ps l) (lay_ps l) (zE (dep_ps l) (by decide))) ?_ ?_;.simp[SeqAt.noMix,mix_ps]
  . have :PySem.Spec.same (.list (l.map PS.dat)) (.list (l.map PS.dat))=true:=by simp[PySem.Spec.same,same_ps]
    rw[this];exact q
inductive AskI(tr:List Int)(done:List (List Int))(r v9:Nat)(p:P)(j:J)(g:Gh)(bb:Bool)(as:List Int)(S0:AS)(mu:Option Val->Mu)(rest:List Val)(S:AS):Mu->Prop|mk{m:Nat}{w':Nat->Nat}{kvs':List (Int×Val)}{dn todo:List Int}(x12:Option Val):rest=iL todo->as=dn++todo->HasG S 0 g (Lb bb (tr.length+1) (stepsF m p)) j->Inv tr done w' (r+m) p.tr.length (stepsF m p)->(stepsF m p).tr=p.tr->S.H (.law 9)=some (v9,.dictI kvs')->Td tr (stepsF m p) kvs'->(∀x∈dn,x∈kvs'.map (·.1))->(∀x∈dn,∀i,p.tr[i]?=some x->i<r+m)->(m=0\/∃x∈dn,p.tr[r+m-1]?=some x)->FrR 0 S0 S->AskI tr done r v9 p j g bb as S0 mu rest S (mu x12)
theorem ask_loop(hd:8<=d)(bb:Bool)(h3:3<=tr.length)(I0:Inv tr done w r p.tr.length p)(hd5:done.length<=50)(has:∀x∈as,x∈p.tr)(h0:HasG S0 0 g (Lb bb (tr.length+1) p) j)(ht0:S0.H (.law 9)=some (v9,.dictI kvs))(td0:Td tr p kvs){chk:AS->Prop}(hchk:∀S',FrR 0 S0 S'->chk S'){x0 x2 x3 x8 x9 x10 x11:Option Val}{Q:SQ}(q:∀(m:Nat)w' kvs' S' x12,HasG S' 0 g (Lb bb (tr.length+1) (stepsF m p)) j->Inv tr done w' (r+m) p.tr.length (stepsF m p)->(stepsF m p).tr=p.tr->S'.H (.law 9)=some (v9,.dictI kvs')->Td tr (stepsF m p) kvs'->(∀x∈as,x∈kvs'.map (·.1))->(∀x∈as,∀i,p.tr[i]?=some x->i<r+m)->(m=0\/∃x∈as,p.tr[r+m-1]?=some x)->FrR 0 S0 S'->Q .next [x0,x1,x2,x3,some (.int (tr.length+1:Nat)),x5,some (.loc (.law 9) v9),some (lo 0 g .core),x8,x9,x10,x11,x12,x13,none,none,none] S'):forO (fun x μ S K=>bindNames [12] x μ fun μ=>wpSts (Y.E d) (.cons (.ifs (.not (.call .right (.cons (.lc 7) (.cons (.lc 12) (.cons (.lc 4) (.cons (.lc 6) .nil)))))) (.cons (.ret .fls) .nil) .nil) .nil) μ S K) chk (iL as) [x0,x1,x2,x3,some (.int (tr.length+1:Nat)),x5,some (.loc (.law 9) v9),some (lo 0 g .core),x8,x9,x10,x11,x12,x13,none,none,none] S0 Q:=by
  refine forO_ind (fun rest μ S=>AskI tr done r v9 p j g bb as S0 (fun x12=>[x0,x1,x2,x3,some (.int (tr.length+1:Nat)),x5,some (.loc (.law 9) v9),some (lo 0 g .core),x8,x9,x10,x11,x12,x13,none,none,none]) rest S μ) ?_ ?_ _ _ _ (.mk (m:=0) (dn:=[]) x12 rfl rfl h0 I0 rfl ht0 td0 nofun nofun (.inl rfl) FrR.refl) ?_
  .rintro rest μ S⟨x12,_,_,_,_,_,_,_,_,_,_,F⟩;exact hchk S F
  .rintro x rest μ S K(@⟨m,w',kvs',dn,todo,x12,hr,has',H,I,etr,ht,td,hk,hb,hm,F⟩)hK;cases todo with|nil=>cases hr|cons lit todo=>
      cases hr;obtain⟨i,hi,e⟩:=yI (has lit (by rw[has'];simp));have hi:p.tr[i]?=some lit:=zM.mpr ⟨hi,e⟩;have hi':(stepsF m p).tr[i]?=some lit:=etr▸hi;have eh:p.tr.length=(stepsF m p).tr.length:=by rw[etr]
      clear e;obtain⟨w1,_,_,I1,ku,_⟩:=ask_ex (i:=i) (lit:=lit) hd5 _ (r+m) w' (stepsF m p) rfl I hi';rw[<-stepsF_add]at I1 ku;have e2:r+m+(i+1-(r+m))=r+(m+(i+1-(r+m))):=by exact lC 0x72604042010000420041000 tT
      rw[e2]at I1;refine⟨nb rfl,?_⟩;refine s_right Y (d:=d) hd bb h3 I hd5 hi' H ht td fun S1 kvs1 H1 ht1 td1 hin hsub F1=>?_;rw[<-stepsF_add]at H1 td1;refine hK _ _ (.mk (dn:=dn++[lit]) (todo:=todo) _ rfl (has'.trans (List.append_cons ..)) H1 I1 (ku.tr.trans etr) ht1 td1 (fun x hx=>?_) (fun x hx i' hj=>?_) ?_ (F.trans F1))
      . clear has' hi hi' left left_1 right;rcases yV.mp hx with hx|hx;.exact hsub x (hk x hx)
        .rw[zD]at hx;subst hx;exact hin
      . clear has' hi' left left_1 right hin;rcases yV.mp hx with hx|hx;.have :=hb x hx i' hj;exact lD 0x7160420100016040430201000 tT this
        .rw[zD]at hx;subst hx;obtain⟨a,ea⟩:=zM.mp hi;obtain⟨b,eb⟩:=zM.mp hj;have :=(List.getElem_inj I0.i0.nd).mp (ea.trans eb.symm);exact lE 0x70604042010300412407f7f25004016040430201000 tT this (le_sub_ad _ _)
      . by_cases c:i<r+m
        .rw[show i+1-(r+m)=0 from Nat.sub_eq_zero_of_le c,Nat.add_zero];exact hm.imp id fun⟨x,hx,e⟩=>⟨x,yP _ hx,e⟩
        .exact .inr ⟨lit,by simp,by rw[<-Nat.add_assoc,Nat.add_sub_cancel' (Nat.le_succ_of_le (Nat.le_of_not_lt c))];exact hi⟩
  . rintro μ S(@⟨m,w',kvs',dn,todo,x12,hr,has',H,I,etr,ht,td,hk,hb,hm,F⟩);have :todo=[]:=by clear has';cases todo with|nil=>rfl|cons _ _=>cases hr
    clear hr;subst this;rw[yS]at has';subst has';exact q m w' kvs' S x12 H I etr ht td hk hb hm F
theorem ask_draw(hE:∀{S:AS}{b:Nat}{w:Int}{Q:VQ},Feed S n c cells b->b<=900->1<=w->(∀S'(r:Nat),(r:Int)<w->Feed S' n c cells (b+1)->FrL S S'->Q (.int r) S')->E.C .draw [fV n,.int w] S Q){v5:Nat}{kn:List Int}(hb:b<=800)(hk:kn.length<=900)(f:Feed S n c cells b)(h5:S.H (.law 5)=some (v5,.list (iL kn))){x0 x2 x3 x4 x6 x7 x8 x9 x11:Option Val}(q:∀S' as v,as.length<=3->(∀x∈as,x∈kn)->Feed S' n c cells (b+4)->(∀t,t≠.law 0->t≠.law 6->t≠.law 13->S'.H t=S.H t)->S'.H (.law 6)=some (v,.list (iL as))->K (.loc (.law 6) v) S'):wpX E (.comp (.sub (.lc 10) (.call .draw (.cons (.lc 1) (.cons (.len (.lc 10)) .nil)))) [15] (.rng (.int 0) (.ite (.cmp .ne (.lc 10) (.lst .nil)) (.call .draw (.cons (.lc 1) (.cons (.int 4) .nil))) (.int 0)) (.int 1) 1) .nil [("feed",1),("known",10),("lap",15)]) [x0,some (fV n),x2,x3,x4,x5,x6,x7,x8,x9,some (.loc (.law 5) v5),x11,x12,x13,none,none,none] S K:=by
  refine⟨memb1 rfl,?_⟩;refine r_newL (.law 13) (yA _) ?_;have f1:=f.alloc (i:=13) (by decide) (.list (iL []));have h51:(S.alloc (.law 13) (.list (iL []))).H (.law 5)=_:=(alloc_t (nD rfl)).trans h5;have h13:(S.alloc (.law 13) (.list (iL []))).H (.law 13)=some (S.n,.list (iL [])):=alloc_eq;have F1:∀t,t≠.law 0->t≠.law 13->(S.alloc (.law 13) (.list (iL []))).H t=S.H t:=fun t _ h=>alloc_t h;show eqOp true (.loc (.law 5) v5) (.loc (.law 13) S.n) (S.alloc (.law 13) (.list (iL []))) _;generalize S.n=n13 at h13⊢;generalize S.alloc _ _=S1 at f1 h51 h13 F1⊢;refine eqLoc h51 h13 ?_;have key:∀S2(r:Nat),r<4->(0<r->0<kn.length)->Feed S2 n c cells (b+1)->(∀t,t≠.law 0->t≠.law 13->S2.H t=S.H t)->compO (fun x acc S K=>bindNames [15] x [x0,some (fV n),x2,x3,x4,x5,x6,x7,x8,x9,some (.loc (.law 5) v5),x11,x12,x13,none,none,none] fun μ'=>wpX E (.sub (.lc 10) (.call .draw (.cons (.lc 1) (.cons (.len (.lc 10)) .nil)))) μ' S fun v S=>K (acc++[v]) S) (fun _=>True) (rngVals 0 r 1) [] S2 fun acc S=>newL acc S K:=fun S2 r hr hri f1 F1=>by
    rw[rng_up (a:=0) (m:=0) rfl rfl,Nat.sub_zero];refine compO_ind (fun rest acc S'=>∃es:List Int,acc=iL es/\(∀x∈es,x∈kn)/\es.length+rest.length=r/\(∀x∈rest,∃a:Int,x=.int a)/\Feed S' n c cells (b+1+es.length)/\(∀t,t≠.law 0->t≠.law 13->S'.H t=S.H t)) ?_ ?_ _ _ _ ⟨[],rfl,nofun,by simp,fun x hx=>by refine xea (yE.mp hx) fun a _ e_2=>?_;clear hx;subst e_2;exact⟨_,rfl⟩,f1,F1⟩ ?_;.intro rest acc S' q_r;refine xea5 q_r fun es e_1 h1 h2 h3 h4 h5=>?_;subst e_1;exact⟨trivial,by rw[zA];exact lC 0x726100420001642100683e33200 tT hr h2⟩
    . intro x rest acc S' K' q_r hK;refine xea5 q_r fun es e_1 h1 h2 h3 h4 h5'=>?_;subst e_1;rw[List.length_cons]at h2;have hi0:=hri (by exact lC 0x726000404122010160002 tT h2);have e5:=(h5' (.law 5) (nD rfl) (nD rfl)).trans h5;refine⟨nb rfl,?_⟩;refine len_ints e5 (lw hk rfl) ?_;refine hE h4 (by exact lD 0x7262004041230101642200603233200064383320410041200 tT hb hr h2) (by exact lA 0x71600023654020012 tT hi0) fun S2 m hm f2 F2=>?_;have hm:m<kn.length:=Int.ofNat_lt.mp hm;refine get_int (y:=kn.getD m 0) ((F2 (.law 5) (nD rfl)).trans e5) (lw hk rfl) rfl (getD_some hm) ?_;refine hK _ _ ⟨es++[kn.getD m 0],by rw[iL,iL,zV];rfl,fun x hx=>?_,by rw[zJ,List.length_singleton];exact lC 0x7817f2520040412100026200410041200 tT h2,fun x hx=>h3 x (zI _ hx),f2.up (by rw[zJ,List.length_singleton];exact lB 0x7060404121004120004120410041200 tT),fun t ht ht'=>(F2 t ht).trans (h5' t ht ht')⟩;rcases yV.mp hx with h|h;.exact h1 x h
      .rw[zD]at h;clear hx;subst h;rw[zO,zH hm];exact List.getElem_mem _
    .intro acc S' q_r;refine xea5 q_r fun es e_1 h1 h2 h3 h4 h5=>?_;subst e_1;rw[List.length_nil]at h2;refine r_newL (.law 6) (by rw[zA];exact lB 0x726100402001642100683e33200 tT hr h2) ?_;exact q _ es _ (by exact lB 0x72610040200164210063200 tT hr h2) h1 ((h4.alloc (by decide) _).up (by exact lC 0x72620040210164220060442000410041200 tT hr h2)) (fun t h0 h6 h13=>(alloc_t h6).trans (h5 t h0 h13)) alloc_eq
  by_cases c0:kn=[]
  .rw[decide_eq_true c0];refine⟨by decide,by decide,.inl rfl,?_⟩;exact key S1 0 (by decide) (fun h=>absurd h (by decide)) (f1.up (by exact lA 0x70604120000 tT)) F1
  .rw[yR c0];refine hE f1 (by exact lA 0x706032332000643833200 tT hb) (by decide) fun S2 r hr f2 F2=>?_;have hr:r<4:=Int.ofNat_lt.mp hr;refine⟨by decide,by exact lB 0x7565402105402001642101683e33200 tT hr (zY (lA 0x73654020002 tT)),.inl rfl,?_⟩;exact key S2 r hr (fun _=>List.length_pos_iff.mpr c0) f2 fun t h0 h13=>(F2 t h0).trans (F1 t h0 h13)
variable{K:SQ}
structure LI(S:AS)(n c:Nat)(cells tr:List Int)(v2 v3 v4 v9 c0 c1:Nat)(l1 l2 done:List (List Int))(bb:Bool)(p:P)(r b:Nat):Prop where
 f:Feed S n c cells b
 h2:S.H (.law 2)=some (v2,.list (iL tr))
 h3:S.H (.law 3)=some (v3,.list (l1.map cV))
 h4:S.H (.law 4)=some (v4,.list (l2.map cV))
 told:∃kvs,S.H (.law 9)=some (v9,.dictI kvs)/\Td tr p kvs
 core:∃(g:Gh)(j:J),g.v .core=c0/\HasG S 0 g (Lb bb (tr.length+1) p) j/\JOk (tr.length+1) j
 twin:∃(g:Gh)(j:J),g.v .core=c1/\HasG S 1 g p j/\JOk (tr.length+1) j
 inv:∃w,Inv tr done w r p.tr.length p
noncomputable abbrev muL(x0 x3 x5:Option Val)(n N v2 v9 c0 c1:Nat)(x9 x10 x11 x12 x13:Option Val):Mu:=[x0,some (fV n),some (.loc (.law 2) v2),x3,some (.int (N:Int)),x5,some (.loc (.law 9) v9),some (.loc (.core 0 .core) c0),some (.loc (.core 1 .core) c1),x9,x10,x11,x12,x13,none,none,none]
noncomputable def lotBody:Sts:=match body_law with|.cons _ (.cons _ (.cons _ (.cons _ (.cons (.for_ _ _ b) _))))=>b|_=>.nil
theorem HasX.alloc_law(h:HasX Z S k g p j):HasX Z (S.alloc (.law i) o) k g p j:=fun x o n e=>(alloc_t (nD rfl)).trans (h x o n e)
structure Sm(n c:Nat)(cells tr:List Int)(v2 v3 v4 v9:Nat)(l1 l2:List (List Int))(S:AS)(b:Nat)(kvs:List (Int×Val)):Prop where
 f:Feed S n c cells b
 h2:S.H (.law 2)=some (v2,.list (iL tr))
 h3:S.H (.law 3)=some (v3,.list (l1.map cV))
 h4:S.H (.law 4)=some (v4,.list (l2.map cV))
 h9:S.H (.law 9)=some (v9,.dictI kvs)
theorem Feed.laws(f:Feed S n c cells b)(h:∀i,i<2->S'.H (.law i)=S.H (.law i)):Feed S' n c cells b:=let⟨kk,x,e⟩:=f.at_;⟨⟨kk,x,(h 0 (by decide)).trans e⟩,(h 1 (by decide)).trans f.ce,f.len⟩
theorem Sm.fr(s:Sm n c cells tr v2 v3 v4 v9 l1 l2 S b kvs)(F:Fr D0 k l S S'):Sm n c cells tr v2 v3 v4 v9 l1 l2 S' b kvs:=⟨s.f.laws fun i _=>F (.law i) trivial,(F (.law 2) trivial).trans s.h2,(F (.law 3) trivial).trans s.h3,(F (.law 4) trivial).trans s.h4,(F (.law 9) trivial).trans s.h9⟩
theorem Sm.frR(s:Sm n c cells tr v2 v3 v4 v9 l1 l2 S b kvs){kvs':List (Int×Val)}(F:FrR k S S')(h9:S'.H (.law 9)=some (v9,.dictI kvs')):Sm n c cells tr v2 v3 v4 v9 l1 l2 S' b kvs':=⟨s.f.laws fun i hi=>F (.law i) (show i<9 by exact lA 0x7162200169200 tT hi),(F (.law 2) (show 2<9 by decide)).trans s.h2,(F (.law 3) (show 3<9 by decide)).trans s.h3,(F (.law 4) (show 4<9 by decide)).trans s.h4,h9⟩
theorem Sm.alloc(s:Sm n c cells tr v2 v3 v4 v9 l1 l2 S b kvs)(h:5<=i)(h9:i≠9):Sm n c cells tr v2 v3 v4 v9 l1 l2 (S.alloc (.law i) o) b kvs:=⟨s.f.alloc (by exact lA 0x7060052060022 tT h) o,(alloc_t (by simp;exact fun e=>lA 0x77f7f2500220600528080650202 tT h e)).trans s.h2,(alloc_t (by simp;exact fun e=>lA 0x77f7f2500320600528080650202 tT h e)).trans s.h3,(alloc_t (by simp;exact fun e=>lA 0x77f7f2500420600528080650202 tT h e)).trans s.h4,(alloc_t (by simp;exact fun e=>(Nat.lt_or_gt_of_ne h9).elim (fun a=>lA 0x71692002600928080650202 tT e a) fun a=>lA 0x71600927f7f2500928080650202 tT e a)).trans s.h9⟩
theorem Sm.draw(s:Sm n c cells tr v2 v3 v4 v9 l1 l2 S b kvs)(f:Feed S' n c cells b')(F:∀i,i≠0->i≠6->i≠13->S'.H (.law i)=S.H (.law i)):Sm n c cells tr v2 v3 v4 v9 l1 l2 S' b' kvs:=⟨f,(F 2 (by decide) (by decide) (by decide)).trans s.h2,(F 3 (by decide) (by decide) (by decide)).trans s.h3,(F 4 (by decide) (by decide) (by decide)).trans s.h4,(F 9 (by decide) (by decide) (by decide)).trans s.h9⟩
theorem HasX.frL(h:HasX Z S k g p j)(F:FrL S S'):HasX Z S' k g p j:=fun x o n e=>(F (.core k x) (nD rfl)).trans (h x o n e)
theorem turn_end(hd:9<=d){w':Nat->Nat}{g0 g1:Gh}{j0 j1:J}(I0:Inv tr done w r p.tr.length p)(hd5:done.length<=50)(I:Inv tr done w' (r+m) p.tr.length (stepsF m p))(etr:(stepsF m p).tr=p.tr)(s:Sm n c cells tr v2 v3 v4 v9 l1 l2 S b kvs)(td:Td tr (stepsF m p) kvs)(h0:HasG S 0 g0 (Lb bb (tr.length+1) (stepsF m p)) j0)(hj0:JOk (tr.length+1) j0)(h1:HasG S 1 g1 p j1)(hj1:JOk (tr.length+1) j1)(has:∀x∈as,x∈p.tr)(hal:as.length<=3)(hlt:∀x∈as,∀i,p.tr[i]?=some x->i<r+m)(hm:m=0\/∃x∈as,p.tr[r+m-1]?=some x){v5 v6:Nat}(h5:S.H (.law 5)=some (v5,.list (iL p.tr)))(h6:S.H (.law 6)=some (v6,.list (iL as))){x0 x3 x9:Option Val}(q:∀S' x13,LI S' n c cells tr v2 v3 v4 v9 (g0.v .core) (g1.v .core) l1 l2 done bb (stepsF m p) (r+m) b->K .next (muL x0 x3 x5 n (tr.length+1) v2 v9 (g0.v .core) (g1.v .core) x9 (some (.loc (.law 5) v5)) (some (.loc (.law 6) v6)) x12 x13) S'):wpSts (Y.E d) (match lotBody with|.cons _ (.cons _ (.cons _ (.cons _ (.cons _ (.cons _ r)))))=>r|r=>r) (muL x0 x3 x5 n (tr.length+1) v2 v9 (g0.v .core) (g1.v .core) x9 (some (.loc (.law 5) v5)) (some (.loc (.law 6) v6)) x12 x13) S K:=by
  have htl:=I0.i0.tl;have h5':=I0.i0.n5;show wpSts (Y.E d) (.cons (.asg (.nm 13) (.last1 (.comp _ _ _ _ _))) _) _ S K;refine s_asg ?_;refine filt_rule (nc:=[]) (l:=p.tr) (c:=fun x=>decide (x∈as)) rfl (fun Q q=>lc_rule rfl q) (seqOf_loc h5) (by exact lB 0x70652100610000643833200 tT htl h5') (fun x hx K k=>?_) (.law 13) ?_;.exact in_lints h6 (by rw[Bool.xor_false];exact k)
  generalize hF:p.tr.filter (fun x=>decide (x∈as))=F;have hFl:F.length<=5:=by rw[<-hF];have :=List.length_filter_le (fun x=>decide (x∈as)) p.tr;exact lC 0x7061000065220062010065200 tT htl h5' this
  refine⟨_,listAt_loc alloc_eq,by rw[zA];exact lw hFl rfl,?_⟩;refine r_newL (.law 14) (by rw[List.length_drop,zA];exact lB 0x70610000652100683e33200 tT hFl (Nat.sub_le _ _)) ?_;refine⟨nb rfl,?_⟩;have eL:(iL F).drop ((iL F).length-1)=iL (F.drop (F.length-1)):=by rw[iL,iL,zA,List.map_drop]
  rw[eL];have s1:=(s.alloc (i:=13) (o:=.list (iL F)) (by decide) (by decide)).alloc (i:=14) (o:=.list (iL (F.drop (F.length-1)))) (by decide) (by decide);have k0:HasG ((S.alloc (.law 13) (.list (iL F))).alloc (.law 14) (.list (iL (F.drop (F.length-1))))) 0 g0 _ j0:=h0.alloc_law.alloc_law;have k1:HasG ((S.alloc (.law 13) (.list (iL F))).alloc (.law 14) (.list (iL (F.drop (F.length-1))))) 1 g1 _ j1:=h1.alloc_law.alloc_law;have e14:((S.alloc (.law 13) (.list (iL F))).alloc (.law 14) (.list (iL (F.drop (F.length-1))))).H (.law 14)=_:=alloc_eq;generalize AS.n _=v14 at e14⊢;generalize AS.alloc _ _ _=S1 at s1 k0 k1 e14⊢;refine r_newL (.law 15) (yA _) ?_;have s2:=s1.alloc (i:=15) (o:=.list (iL [])) (by decide) (by decide);have k02:HasG (S1.alloc (.law 15) (.list (iL []))) 0 g0 _ j0:=k0.alloc_law;have k12:HasG (S1.alloc (.law 15) (.list (iL []))) 1 g1 _ j1:=k1.alloc_law;have e142:(S1.alloc (.law 15) (.list (iL []))).H (.law 14)=_:=(alloc_t (nD rfl)).trans e14;have e15:(S1.alloc (.law 15) (.list (iL []))).H (.law 15)=some (S1.n,.list (iL [])):=alloc_eq;show eqOp true (.loc (.law 14) v14) (.loc (.law 15) S1.n) (S1.alloc (.law 15) (.list (iL []))) _;generalize S1.n=v15 at e15⊢;generalize AS.alloc _ _ _=S2 at s2 k02 k12 e142 e15⊢;refine eqLoc e142 e15 ?_;have fin:∀S3,Sm n c cells tr v2 v3 v4 v9 l1 l2 S3 b kvs->HasG S3 0 g0 (Lb bb (tr.length+1) (stepsF m p)) j0->HasG S3 1 g1 (stepsF m p) j1->wpSts (Y.E d) (match lotBody with|.cons _ (.cons _ (.cons _ (.cons _ (.cons _ (.cons _ (.cons _ (.cons _ r)))))))=>r|r=>r) (muL x0 x3 x5 n (tr.length+1) v2 v9 (g0.v .core) (g1.v .core) x9 (some (.loc (.law 5) v5)) (some (.loc (.law 6) v6)) x12 (some (.loc (.law 14) v14))) S3 K:=fun S3 s3 k03 k13=>by
    refine k13.get (a:=.proof) id rfl ?_;refine getP k13 id (a:=.steps) rfl ?_;refine k03.get (a:=.proof) id rfl ?_;refine getP k03 id (a:=.steps) rfl ?_;have e0:=k03.at .psteps rfl id;rw[Lb_ps]at e0;refine eqSteps (k13.at .psteps rfl id) e0 ?_;exact q S3 _ ⟨s3.f,s3.h2,s3.h3,s3.h4,⟨kvs,s3.h9,td⟩,⟨g0,j0,rfl,k03,hj0⟩,⟨g1,j1,rfl,k13,hj1⟩,⟨w',etr.symm▸I⟩⟩
  by_cases c0:as=[]
  . have :F=[]:=by rw[<-hF,c0];simp
    clear I etr td h0 hlt q hFl eL k0 e14 e142;subst this;have hm0:m=0:=hm.elim id fun⟨x,hx,_⟩=>by rw[c0]at hx;cases hx
    clear hm;subst hm0;exact fin S2 s2 k02 k12
  . -- the last one known of those asked
    clear etr td h0 q hFl eL k0 e14;obtain⟨a,ha⟩:=List.exists_mem_of_ne_nil _ c0;have hFne:F≠[]:=fun e=>by
      have :a∈F:=by rw[<-hF];exact yM.mpr ⟨has a ha,decide_eq_true ha⟩
      rw[e]at this;cases this
    obtain⟨L,lit,rfl⟩:∃L x,F=L++[x]:=by
      rcases List.eq_nil_or_concat F with h|⟨L,x,h⟩;.exact absurd h hFne
      .exact⟨L,x,by rw[h,List.concat_eq_append]⟩
    have edrop:(L++[lit]).drop ((L++[lit]).length-1)=[lit]:=by simp
    rw[edrop]at e142⊢;have hlF:lit∈p.tr.filter (fun x=>decide (x∈as)):=by rw[hF];simp
    obtain⟨hlt1,hlt2⟩:=yM.mp hlF;have hlas:=zW hlt2;clear hlF hlt2;obtain⟨i,hi,e⟩:=yI hlt1;have hi:p.tr[i]?=some lit:=zM.mpr ⟨hi,e⟩;have himax:∀x∈as,∀i',p.tr[i']?=some x->i'<=i:=fun x hx i' hi'=>by
      refine Decidable.byContradiction fun hc=>?_;have hsplit:p.tr=p.tr.take (i+1)++p.tr.drop (i+1):=(List.take_append_drop _ _).symm;have hxd:x∈p.tr.drop (i+1):=List.mem_iff_getElem?.mpr ⟨i'-(i+1),by rw[List.getElem?_drop,show i+1+(i'-(i+1))=i' by exact lC 0x781802520040412001080810504041200102026200410041200 tT (le_sub_ad _ _) (yC (lB 0x71610000610041200 tT (Nat.lt_of_not_le hc)))];exact hi'⟩;rw[hsplit,List.filter_append]at hF;have hx2:x∈(p.tr.drop (i+1)).filter (fun x=>decide (x∈as)):=yM.mpr ⟨hxd,decide_eq_true hx⟩;have hlast:lit∈(p.tr.drop (i+1)).filter (fun x=>decide (x∈as)):=by
        have h1:=zG List.getLast? hF;rw[List.getLast?_append,List.getLast?_concat]at h1;clear edrop hlt1 hlas e hi;cases q:((p.tr.drop (i+1)).filter (fun x=>decide (x∈as))).getLast? with
    |none=>
     rw[List.getLast?_eq_none_iff]at q;rw[q]at hx2;cases hx2|some z=>
          rw[q]at h1;simp at h1;subst h1;exact List.mem_of_getLast? q
      obtain⟨i2,hi2⟩:=List.mem_iff_getElem?.mp (yM.mp hlast).1;rw[List.getElem?_drop]at hi2;obtain⟨a,ea⟩:=zM.mp hi;obtain⟨b,eb⟩:=zM.mp hi2;have :=(List.getElem_inj I0.i0.nd).mp (ea.trans eb.symm);exact lB 0x77f7f250410041200008080650202 tT this
    have hmi:i+1-r=m:=by
      have h1:=hlt lit hlas i hi;clear I hlt k02 fin;rcases hm with rfl|⟨x,hx,hxe⟩;.exact Nat.sub_eq_zero_of_le h1
      .exact Nat.sub_eq_of_eq_add (Nat.add_comm m r▸Nat.le_antisymm h1 (Nat.le_add_of_sub_le (himax x hx _ hxe)))
    refine xea4e2a3 (ask_ex (i:=i) (lit:=lit) hd5 _ r w p rfl I0 hi) fun w2 r1 _ I2 _ st stp hus hst hcl _=>?_;rw[hmi]at r1 I2 hus hst;obtain⟨z1,_⟩:=I.rsz hd5;refine k12.get (a:=.proof) id rfl ?_;refine⟨k12.instP id rfl,?_⟩;refine⟨k12.inst id rfl,?_⟩;refine get_int e142 (nb rfl) (n:=0) rfl rfl ?_;refine s_unit Y (d:=d) (k:=1) (v:=lit.natAbs) (s:=st) (zE (nb rfl) hd) r1 k12 hus (by rw[I.i1.lus];exact lA 0x7065200064383320412041200 tT h5') fun S3 k13 F3=>?_;refine s_p_clause Y (d:=d) (k:=1) (zE (nb rfl) hd) k13 id id (lw z1.ps rfl) rfl hst ?_;rw[hcl];refine get_int ((F3 (.law 14) trivial).trans e142) (nb rfl) (n:=0) rfl rfl ?_;refine⟨nb rfl,?_⟩;refine eqTup (a:=[lit]) (b:=[lit]) ?_;rw[decide_eq_true rfl];exact fin S3 (s2.fr F3) (k02.fr F3 (by decide)) k13
set_option maxHeartbeats 1000000 in theorem law_turn(hd:9<=d)(h3:3<=tr.length){c0 c1 lt lv:Nat}(L:LI S n c cells tr v2 v3 v4 v9 c0 c1 l1 l2 done bb p r b)(hlt:lt=3\/lt=4)(hlot:S.H (.law lt)=some (lv,.list (lot.map cV)))(hok:∀c∈lot,ClOk tr c)(hlen:done.length+lot.length<=50)(hb:b<=700){x0 x3 x10 x11:Option Val}(q:∀S' p' r' bb' x10 x11 x12 x13,LI S' n c cells tr v2 v3 v4 v9 c0 c1 l1 l2 (done++lot) bb' p' r' (b+5)->K .next (muL x0 x3 x5 n (tr.length+1) v2 v9 c0 c1 (some (.loc (.law lt) lv)) x10 x11 x12 x13) S'):wpSts (Y.E d) lotBody (muL x0 x3 x5 n (tr.length+1) v2 v9 c0 c1 (some (.loc (.law lt) lv)) x10 x11 x12 x13) S K:=by
  obtain⟨f,h2,hl3,hl4,⟨kvs,h9,td⟩,⟨gC,jC,rfl,HC,hjC⟩,⟨gT,jT,rfl,HT,hjT⟩,⟨w,I⟩⟩:=L;have s:Sm n c cells tr v2 v3 v4 v9 l1 l2 S b kvs:=⟨f,h2,hl3,hl4,h9⟩;refine xe2a3 (tkn_ex lot p done w r _ I hok hlen) fun p' w' t I' hpre hus=>?_;have td':Td tr p' kvs:=⟨td.nd,fun x hx=>let⟨a,s,e,u⟩:=td.m x hx;⟨a,s,e,hus▸u⟩⟩;have hll:lot.length<=900:=by exact lB 0x70623320400100643833200 tT hlen
  have hd5:(done++lot).length<=50:=by rw[zJ];exact hlen
  have hE:∀{S:AS}{b:Nat}{w:Int}{Q:VQ},Feed S n c cells b->b<=900->1<=w->(∀S'(r:Nat),(r:Int)<w->Feed S' n c cells (b+1)->FrL S S'->Q (.int r) S')->(Y.E d).C .draw [fV n,.int w] S Q:=fun f hb hw q=>s_draw Y (d:=d) (zE (nb rfl) hd) f hb hw q;have htl:=I'.i0.tl;have hn5:=I'.i0.n5;have hpc:(Lb bb (tr.length+1) p=p/\p.st=[])\/(Lb bb (tr.length+1) p=lvP (tr.length+1) p/\LvOk (tr.length+1) p):=by
    clear HC;cases bb with|true=>exact .inr ⟨rfl,I.lv⟩|false=>exact .inl ⟨rfl,I.i0.st⟩
  have hvl:∀{k:Nat}{S1 S':AS},S1.H (.law lt)=some (lv,.list (lot.map cV))->Fr D0 k 3 S1 S'->S'.seqOf (.loc (.law lt) lv)=some (lot.map cV):=fun h F=>seqOf_loc ((F (.law lt) trivial).trans h);have phD:∀(S1:AS)(g0 g1:Gh)(j0 j1:J)(bb':Bool)(x11 x12 x13:Option Val),g0.v .core=gC.v .core->g1.v .core=gT.v .core->HasG S1 0 g0 (Lb bb' (tr.length+1) p') j0->JOk (tr.length+1) j0->HasG S1 1 g1 p' j1->JOk (tr.length+1) j1->Sm n c cells tr v2 v3 v4 v9 l1 l2 S1 (b+1) kvs->∀v5,S1.H (.law 5)=some (v5,.list (iL p'.tr))->wpSts (Y.E d) (match lotBody with|.cons _ (.cons _ (.cons _ (.cons _ r)))=>r|r=>r) (muL x0 x3 x5 n (tr.length+1) v2 v9 (gC.v .core) (gT.v .core) (some (.loc (.law lt) lv)) (some (.loc (.law 5) v5)) x11 x12 x13) S1 K:=by
    intro S1 g0 g1 j0 j1 bb' x11 x12 x13 hg0 hg1 H0 hj0 H1 hj1 s1 v5 h5;generalize gC.v .core=c0 at hg0 q⊢;generalize gT.v .core=c1 at hg1 q⊢;subst hg0 hg1;show wpSts (Y.E d) (.cons (.asg (.nm 11) (.comp _ _ _ _ _)) _) _ S1 K;refine s_asg ?_;refine ask_draw (E:=Y.E d) hE (by exact lA 0x706c3b3220006032332041200 tT hb) (by exact lB 0x70652100610000643833200 tT htl hn5) s1.f h5 fun S2 as v6 hal has f2 F2 h6=>?_;refine⟨nb rfl,?_⟩;have s2:Sm n c cells tr v2 v3 v4 v9 l1 l2 S2 (b+5) kvs:=s1.draw f2 fun i h0 h6 h13=>F2 (.law i) (by simpa using h0) (by simpa using h6) (by simpa using h13);have H02:HasG S2 0 g0 (Lb bb' (tr.length+1) p') j0:=fun x o nX e=>(F2 (.core 0 x) (nD rfl) (nD rfl) (nD rfl)).trans (H0 x o nX e);have H12:HasG S2 1 g1 p' j1:=fun x o nX e=>(F2 (.core 1 x) (nD rfl) (nD rfl) (nD rfl)).trans (H1 x o nX e);have h52:S2.H (.law 5)=some (v5,.list (iL p'.tr)):=(F2 (.law 5) (nD rfl) (nD rfl) (nD rfl)).trans h5;refine⟨_,seqOf_loc h6,by rw[zA];exact lw hal rfl,?_⟩;refine ask_loop Y (d:=d) (yU hd) bb' h3 I' hd5 has H02 s2.h9 td' (fun S' F=>seqOf_loc ((F (.law 6) (show 6<9 by decide)).trans h6)) fun m w3 kvs3 S3 x12 H03 I3 etr ht3 td3 hk3 hb3 hm3 F3=>?_;have H13:HasG S3 1 g1 p' j1:=fun x o nX e=>(F3 (.core 1 x) (show 1≠0 by decide)).trans (H12 x o nX e);exact turn_end Y (d:=d) hd I' hd5 I3 etr (s2.frR F3 ht3) td3 H03 hj0 H13 hj1 has hal hb3 hm3 ((F3 (.law 5) (show 5<9 by decide)).trans h52) ((F3 (.law 6) (show 6<9 by decide)).trans h6) fun S' x13 L=>q S' _ _ bb' _ _ _ _ L
  have phC:∀(S1:AS)(g0 g1:Gh)(j0 j1:J)(x11 x12 x13:Option Val),g0.v .core=gC.v .core->g1.v .core=gT.v .core->HasG S1 0 g0 p' j0->JOk (tr.length+1) j0->HasG S1 1 g1 p' j1->JOk (tr.length+1) j1->Sm n c cells tr v2 v3 v4 v9 l1 l2 S1 b kvs->∀v5,S1.H (.law 5)=some (v5,.list (iL p'.tr))->wpSts (Y.E d) (match lotBody with|.cons _ (.cons _ (.cons _ r))=>r|r=>r) (muL x0 x3 x5 n (tr.length+1) v2 v9 (gC.v .core) (gT.v .core) (some (.loc (.law lt) lv)) (some (.loc (.law 5) v5)) x11 x12 x13) S1 K:=by
    intro S1 g0 g1 j0 j1 x11 x12 x13 hg0 hg1 H0 hj0 H1 hj1 s1 v5 h5;have phD':=phD;refine hE s1.f (by exact lA 0x706c3b322000643833200 tT hb) (by decide) fun S2 m hm f2 F2=>?_;have s2:Sm n c cells tr v2 v3 v4 v9 l1 l2 S2 (b+1) kvs:=s1.draw f2 fun i h0 _ _=>F2 (.law i) (by simpa using h0);have H02:HasG S2 0 g0 p' j0:=H0.frL F2;have H12:HasG S2 1 g1 p' j1:=H1.frL F2;have h52:S2.H (.law 5)=some (v5,.list (iL p'.tr)):=(F2 (.law 5) (nD rfl)).trans h5;by_cases cc:(m:Int)=1
    . refine r_eq true (yG.mpr cc) ?_;have e0:gC.v .core=g0.v .core:=hg0.symm;have lev:∀(K':SQ),(∀S4 g4 j4,g4.v .core=gC.v .core->HasG S4 0 g4 (lvP (tr.length+1) p') j4->JOk (tr.length+1) j4->Fr D0 0 0 S2 S4->K' .next (muL x0 x3 x5 n (tr.length+1) v2 v9 (gC.v .core) (gT.v .core) (some (.loc (.law lt) lv)) (some (.loc (.law 5) v5)) x11 x12 x13) S4)->wpSts (Y.E d) (.cons (.ex (.meth (.lc 7) .t_newlev .nil)) (.cons (.ex (.meth (.lc 7) .t_enq (.cons (.lc 4) (.cons (.neg (.int 1)) .nil)))) .nil)) (muL x0 x3 x5 n (tr.length+1) v2 v9 (gC.v .core) (gT.v .core) (some (.loc (.law lt) lv)) (some (.loc (.law 5) v5)) x11 x12 x13) S2 K':=fun K' hK'=>by
        rw[e0]at hK'⊢;refine⟨H02.inst id rfl,?_⟩;refine s_newlev Y (d:=d) (zE (nb rfl) hd) H02 (by rw[I'.i0.st];exact yA _) (by exact lB 0x70652100610000643833200 tT htl hn5) fun S3 H3 F3=>?_;rw[I'.i0.st]at H3;refine⟨H3.inst id rfl,?_⟩;refine s_enq Y (d:=d) (N:=tr.length+1) (l:=((tr.length+1:Nat):Int)) (n:=-1) (zE (nb rfl) hd) H3 ⟨by exact lA 0x7065200064312041200 tT hn5,I'.i0.la,I'.i0.lr,hj0.lev,hj0.spo,(by show p'.tr.length<=900;exact lB 0x70652100610000643833200 tT htl hn5),(by show([]++[_]).length<=900;simp)⟩ (by rw[Int.natAbs_natCast];exact yO _) fun S4 H4 F4=>?_;exact hK' S4 g0 _ rfl H4 (hj0.enqN (Int.natAbs_natCast _)) (F3.trans (F4.up (yO _) fun _ z=>z.elim))
      refine lev _ fun S4 g4 j4 hg4 H4 hj4 F4=>?_;exact phD S4 g4 g1 j4 j1 true _ _ _ hg4 hg1 H4 hj4 (H12.fr F4 (by decide)) hj1 (s2.fr F4) v5 ((F4 (.law 5) trivial).trans h52)
    .refine r_eq false (zQ.mpr cc) ?_;exact phD S2 g0 g1 j0 j1 false _ _ _ hg0 hg1 H02 hj0 H12 hj1 s2 v5 h52
  have phB:∀(S1:AS)(g0 g1:Gh)(j0 j1:J),g0.v .core=gC.v .core->g1.v .core=gT.v .core->HasG S1 0 g0 p' j0->JOk (tr.length+1) j0->HasG S1 1 g1 p' j1->JOk (tr.length+1) j1->Sm n c cells tr v2 v3 v4 v9 l1 l2 S1 b kvs->wpSts (Y.E d) (match lotBody with|.cons _ r=>r|r=>r) (muL x0 x3 x5 n (tr.length+1) v2 v9 (gC.v .core) (gT.v .core) (some (.loc (.law lt) lv)) x10 x11 x12 x13) S1 K:=by
    intro S1 g0 g1 j0 j1 hg0 hg1 H0 hj0 H1 hj1 s1;have known:∀(K':VQ),(∀S2 v5,S2=S1.alloc (.law 5) (.list (iL p'.tr))->v5=S1.n->K' (.loc (.law 5) v5) S2)->wpX (Y.E d) (.toList (.at (.lc 7) .trail)) (muL x0 x3 x5 n (tr.length+1) v2 v9 (gC.v .core) (gT.v .core) (some (.loc (.law lt) lv)) x10 x11 x12 x13) S1 K':=fun K' hK'=>by
      exact toL_rule (fun Q q=>x_at (lc_rule rfl (hg0▸H0.get (a:=.trail) id rfl q))) (H0.at .trail rfl id) (r_newL (.law 5) (by rw[zA];exact lB 0x70652100610000683e33200 tT htl hn5) (hK' _ _ rfl rfl))
    refine known _ fun S2 v5 e2 ev=>?_;refine⟨nb rfl,?_⟩;have s2:Sm n c cells tr v2 v3 v4 v9 l1 l2 S2 b kvs:=e2▸s1.alloc (by decide) (by decide);have H02:HasG S2 0 g0 p' j0:=e2▸H0.alloc_law;have H12:HasG S2 1 g1 p' j1:=e2▸H1.alloc_law;have h5:S2.H (.law 5)=some (v5,.list (iL p'.tr)):=by rw[e2,ev];exact alloc_eq
    show wpSts (Y.E d) (.cons (.ifs (.cmp .ne (.comp _ _ _ _ _) (.lst .nil)) _ _) _) (muL x0 x3 x5 n (tr.length+1) v2 v9 (gC.v .core) (gT.v .core) (some (.loc (.law lt) lv)) (some (.loc (.law 5) v5)) x11 x12 x13) S2 K;refine s_if ?_;refine filt_rule (nc:=[]) (l:=p'.tr) (c:=fun x=>decide (x∉tr)) rfl (fun Q q=>lc_rule rfl q) (seqOf_loc h5) (by exact lB 0x70652100610000643833200 tT htl hn5) (fun x hx K k=>?_) (.law 13) ?_;.refine in_lints s2.h2 ?_;rw[Bool.xor_true,<-decide_not];exact k
    have eF:p'.tr.filter (fun x=>decide (x∉tr))=[]:=List.filter_eq_nil_iff.mpr fun x hx=>by simpa using I'.i0.sub x hx
    rw[eF];refine r_newL (.law 14) (yA _) ?_;refine eqLoc (a:=[]) (b:=[]) ((alloc_t (nD rfl)).trans alloc_eq) alloc_eq ?_;exact phC _ g0 g1 j0 j1 _ _ _ hg0 hg1 H02.alloc_law.alloc_law hj0 H12.alloc_law.alloc_law hj1 ((s2.alloc (by decide) (by decide)).alloc (by decide) (by decide)) v5 ((alloc_t (nD rfl)).trans ((alloc_t (nD rfl)).trans h5))
  refine s_taken Y (d:=d) (k:=0) hd hpc hll (fun S' F=>hvl hlot F) t HC hjC fun S1 g1 j1 hg1 H1 hj1 F1=>?_;refine s_taken Y (d:=d) (k:=1) hd (.inl ⟨rfl,I.i0.st⟩) hll (fun S' F=>hvl ((F1 (.law lt) trivial).trans hlot) F) t (HT.fr F1 (by decide)) hjT fun S2 g2 j2 hg2 H2 hj2 F2=>?_;exact phB S2 g1 g2 j1 j2 hg1 hg2 (H1.fr F2 (by decide)) hj1 H2 hj2 ((s.fr F1).fr F2)
theorem fr_law(f:Feed S n c cells b)(F:Fr D0 k l S S'):Feed S' n c cells b:=f.laws fun i _=>F (.law i) trivial
set_option maxHeartbeats 1000000 in theorem law_spec(Y:Sys):wpSts (Y.E 12) body_law (some (.raw (.ref Y.scrA))::List.replicate 16 none) ⟨fun _=>none,0⟩ (retQ fun x _=>x=.bool true):=by
 generalize hQ:(retQ fun x _=>x=Val.bool true)=QQ;have hret:∀μ S,QQ (.ret (.bool true)) μ S:=fun μ S=>by rw[<-hQ];exact rfl
 clear hQ;have e12:((Y.scr.take (Int.toNat 48)).map Val.int)=iL (Y.scr.take 48):=rfl;have hl48:(Y.scr.take 48).length<=48:=List.length_take_le _ _;generalize hcells:Y.scr.take 48=cells at e12 hl48;have ph1:∀(S1:AS)(n c:Nat),Feed S1 n c cells 0->wpSts (Y.E 12) (match body_law with|.cons _ r=>r|r=>r) [some (.raw (.ref Y.scrA)),some (fV n),none,none,none,none,none,none,none,none,none,none,none,none,none,none,none] S1 QQ:=by
  intro S1 n c f1;refine s_world Y (d:=12) (by decide) f1 fun S2 tr cls v2 vc i hi7 hi8 W f2 h2 hc2=>?_;have hE:∀{S:AS}{b:Nat}{w:Int}{Q:VQ},Feed S n c cells b->b<=900->1<=w->(∀S'(r:Nat),(r:Int)<w->Feed S' n c cells (b+1)->FrL S S'->Q (.int r) S')->(Y.E 12).C .draw [fV n,.int w] S Q:=fun f hb hw q=>s_draw Y (d:=12) (by decide) f hb hw q;have hcl:=W.len;have hn1:=W.n1;have hn2:=W.n2;refine⟨_,rfl,rfl,(by show∀a∈[2,3],a<17;decide),?_⟩;refine len_ints h2 (by exact lA 0x70652000673e33200 tT hn2) ?_;refine len_list hc2 (by rw[zA];exact lA 0x70682000673e33200 tT hcl) ?_;rw[zA];refine hE f2 (by decide) (by exact lA 0x736041254020012 tT) fun S3 part hpart f3 F3=>?_;have hpart:part<cls.length+1:=Int.ofNat_lt.mp hpart;have h23:S3.H (.law 2)=some (v2,.list (iL tr)):=(F3 (.law 2) (nD rfl)).trans h2;have hc3:S3.H (.law i)=some (vc,.list (cls.map cV)):=(F3 (.law i) (by simp;exact fun e=>lA 0x72602000600728080650202 tT hi7 e)).trans hc2;refine⟨.law 9,.I,?_⟩;have f4:=f3.alloc (i:=9) (by decide) DK.I.obj;have h24:(S3.alloc (.law 9) DK.I.obj).H (.law 2)=_:=(alloc_t (nD rfl)).trans h23;have hc4:(S3.alloc (.law 9) DK.I.obj).H (.law i)=_:=(alloc_t (by simp;exact fun e=>lA 0x77f7f2592000682008080650202 tT hi8 e)).trans hc3;have h94:(S3.alloc (.law 9) DK.I.obj).H (.law 9)=some (S3.n,.dictI []):=alloc_eq;refine⟨nb rfl,?_⟩;refine⟨_,rfl,rfl,(by show∀a∈[4,5,6],a<17;decide),?_⟩;show wpSts (Y.E 12) (.cons _ _) [some (.raw (.ref Y.scrA)),some (fV n),some (.loc (.law 2) v2),some (.loc (.law i) vc),some (.int (tr.length+1:Nat)),some (.int part),some (.loc (.law 9) S3.n),none,none,none,none,none,none,none,none,none,none] (S3.alloc (.law 9) DK.I.obj) QQ;generalize S3.n=v9 at h94⊢;generalize S3.alloc _ _=S4 at f4 h24 hc4 h94⊢;refine s_lcore Y (d:=12) (k:=0) (N:=tr.length+1) (by decide) (by exact lA 0x706520006a352041200 tT hn2) fun S5 g0 H05 F5=>?_;refine s_lcore Y (d:=12) (k:=1) (N:=tr.length+1) (by decide) (by exact lA 0x706520006a352041200 tT hn2) fun S6 g1 H16 F6=>?_;refine⟨nb rfl,?_⟩;refine⟨_,rfl,rfl,(by show∀a∈[7,8],a<17;decide),?_⟩;have H06:HasG S6 0 g0 (iniP (tr.length+1)) (iniJ (tr.length+1)):=H05.fr F6 (by decide);have law6:∀i,S6.H (.law i)=S4.H (.law i):=fun i=>(F6 (.law i) trivial).trans (F5 (.law i) trivial);have f6:=fr_law (fr_law f4 F5) F6;have hc6:S6.H (.law i)=some (vc,.list (cls.map cV)):=(law6 i).trans hc4;have h26:=(law6 2).trans h24;have h96:=(law6 9).trans h94;clear H05 F5 F6 law6 f4 h24 hc4 h94 S5;have hcm:(cls.map cV).length=cls.length:=zA ..;refine⟨by exact lA 0x73654020002 tT,by exact lB 0x716041210000682104683e332540200 tT hcl hpart,.inr ⟨_,listAt_loc hc6,by rw[hcm];exact lA 0x70682000683e33200 tT hcl,?_⟩⟩;refine r_newL (.law 3) (zE (List.length_take_le _ _) (by rw[yY];exact lB 0x716041210000682100683e33200 tT hcl hpart)) ?_;refine⟨by exact lA 0x73654020002 tT,by exact lB 0x716041210000682104683e332540200 tT hcl hpart,_,listAt_loc ((alloc_t (by simp;exact fun e=>lA 0x72632000600728080650202 tT hi7 e)).trans hc6),by rw[hcm];exact lA 0x70682000683e33200 tT hcl,?_⟩;refine r_newL (.law 4) (by rw[List.length_drop,hcm];exact lB 0x70610000682100683e33200 tT hcl (Nat.sub_le _ _)) ?_;refine⟨nb rfl,?_⟩;rw[yY,<-List.map_take,<-List.map_drop];have ok:∀l:List (List Int),(∀x∈l,x∈cls)->∀x∈l,ClOk tr x:=fun l h x hx=>W.c x (h x hx);have ok1:=ok (cls.take part) fun x hx=>List.mem_of_mem_take hx;have ok2:=ok (cls.drop part) fun x hx=>List.mem_of_mem_drop hx;have esplit:cls.take part++cls.drop part=cls:=List.take_append_drop _ _;have hlen12:(cls.take part).length+(cls.drop part).length=cls.length:=by rw[<-zJ,esplit]
  generalize cls.take part=l1 at ok1 esplit hlen12⊢;generalize cls.drop part=l2 at ok2 esplit hlen12⊢;have jini:JOk (tr.length+1) (iniJ (tr.length+1)):=⟨yZ,yZ,yZ,fun v hv=>by
   show(List.replicate (tr.length+1+1) (0:Int)).getD v 0=0;rw[zO,List.getElem?_replicate];split<;>rfl⟩;have L0:LI ((S6.alloc (.law 3) (.list (l1.map cV))).alloc (.law 4) (.list (l2.map cV))) n c cells tr v2 S6.n (S6.alloc (.law 3) (.list (l1.map cV))).n v9 (g0.v .core) (g1.v .core) l1 l2 [] false (iniP (tr.length+1)) 0 101:=⟨((f6.alloc (by decide) _).alloc (by decide) _).up (by decide),(alloc_t (nD rfl)).trans ((alloc_t (nD rfl)).trans h26),(alloc_t (nD rfl)).trans alloc_eq,alloc_eq,⟨[],(alloc_t (nD rfl)).trans ((alloc_t (nD rfl)).trans h96),⟨List.nodup_nil,fun x hx=>(nomatch hx)⟩⟩,⟨g0,_,rfl,H06.alloc_law.alloc_law,jini⟩,⟨g1,_,rfl,H16.alloc_law.alloc_law,jini⟩,⟨_,inv_ini W.t hn2⟩⟩;generalize S6.n=v3 at L0⊢;generalize AS.n _=v4 at L0⊢;generalize AS.alloc _ _ _=S7 at L0⊢;have phE:∀(S8:AS)(p:P)(r:Nat)(bb:Bool)(b:Nat)(x9 x10 x11 x12 x13:Option Val),LI S8 n c cells tr v2 v3 v4 v9 (g0.v .core) (g1.v .core) l1 l2 ([]++l1++l2) bb p r b->wpSts (Y.E 12) (match body_law with|.cons _ (.cons _ (.cons _ (.cons _ (.cons _ r))))=>r|r=>r) (muL (some (.raw (.ref Y.scrA))) (some (.loc (.law i) vc)) (some (.int part)) n (tr.length+1) v2 v9 (g0.v .core) (g1.v .core) x9 x10 x11 x12 x13) S8 QQ:=by
   intro S8 p r bb b x9 x10 x11 x12 x13 L;obtain⟨f,h2,h3,h4,⟨kvs,h9,td⟩,⟨gC,jC,e0,HC,hjC⟩,_,⟨w,I⟩⟩:=L;generalize g0.v .core=c0 at e0⊢;subst e0;rw[List.nil_append,esplit]at I;have all:∀x∈tr,x∈p.tr:=fun x hx=>by
    obtain⟨i,hi,e⟩:=yI hx;exact complete I (i+1) i x (xA i) (fun j hj=>W.k j (by exact lC 0x7062000161020161000 tT hi hj)) (zM.mpr ⟨hi,e⟩)
   refine⟨_,seqOf_loc h2,by rw[zA];exact lA 0x70652000683e33200 tT hn2,?_⟩;refine ask_loop Y (d:=12) (by decide) bb hn1 I (by exact lA 0x706820006233200 tT hcl) all HC h9 td (fun S' F=>seqOf_loc ((F (.law 2) (show 2<9 by decide)).trans h2)) fun m w' kvs' S9 x12 H9 I9 etr ht9 td9 hk _ _ F9=>?_;have h29:S9.H (.law 2)=some (v2,.list (iL tr)):=(F9 (.law 2) (show 2<9 by decide)).trans h2;have hkm:∀x∈kvs'.map (·.1),x∈tr:=fun x hx=>by
    refine xea (yE.mp hx) fun y hy e_2=>?_;subst e_2;exact(td9.m y hy).1
   have da:DA (kvs'.map (·.1)):=List.Pairwise.imp_of_mem (fun{a b}ha hb hab e=>by
    obtain⟨i1,h1,e1⟩:=yI (hkm a ha);obtain⟨i2,h2,e2⟩:=yI (hkm b hb);exact hab (W.t.inj (zM.mpr ⟨h1,e1⟩) (zM.mpr ⟨h2,e2⟩) e).2) td9.nd;have hkl:(kvs'.map (·.1)).length<=5:=zE (nodup_len _ tr td9.nd hkm) hn2;have es:srtA (kvs'.map (·.1))=tr:=sa_ext (srtA_sa da) W.t.sa fun x=>⟨fun hx=>hkm x ((srtA_perm _).mem_iff.mp hx),fun hx=>(srtA_perm _).mem_iff.mpr (hk x hx)⟩;have ek:kvs'.map (fun p=>Val.int p.1)=iL (kvs'.map (·.1)):=by rw[iL,List.map_map];rfl
   show wpSts (Y.E 12) (.cons (.ret (.cmp .eq (.sorted (.lc 6) .abs) (.lc 2))) .nil) _ S9 QQ;refine s_ret (x_cmp (x_sorted (lc_rule rfl ⟨iL (kvs'.map (·.1)),.inr ⟨_,_,kvs',rfl,ht9,ek.symm⟩,by rw[zA];exact lA 0x706520016c33200 tT hkl,akey,⟨apart_ints da,fun x hx=>?_⟩,?_⟩)));.refine xea (yE.mp hx) fun a _ e_2=>?_;subst e_2;exact⟨a,rfl,rfl⟩
   .rw[sortK_ints,es];refine r_newL (.law 5) (by rw[zA];exact lA 0x70652000683e33200 tT hn2) ?_;refine lc_rule rfl ?_;refine eqLoc (a:=tr) (b:=tr) alloc_eq ((alloc_t (nD rfl)).trans h29) ?_;rw[decide_eq_true rfl];exact hret _ _
  refine⟨_,rfl,nb rfl,?_⟩;refine forO_cons rfl fun K kn _ _ _=>?_;refine⟨nb rfl,?_⟩;refine law_turn Y (d:=12) (lt:=3) (lv:=v3) (lot:=l1) (by decide) hn1 L0 (.inl rfl) L0.h3 ok1 (by rw[List.length_nil];exact lC 0x72610042000068210062332040002 tT hcl hlen12) (by decide) fun S8 p8 r8 bb8 x10 x11 x12 x13 L8=>?_;refine kn _ _ (forO_cons rfl fun K kn _ _ _=>?_);refine⟨nb rfl,?_⟩;refine law_turn Y (d:=12) (lt:=4) (lv:=v4) (lot:=l2) (by decide) hn1 L8 (.inr rfl) L8.h4 ok2 (by rw[List.nil_append];exact lC 0x72620041000068220062332041000 tT hcl hlen12) (by decide) fun S9 p9 r9 bb9 x10 x11 x12 x13 L9=>?_;refine kn _ _ (forO_nil rfl ?_);exact phE S9 p9 r9 bb9 _ _ _ _ _ _ L9
 refine⟨by decide,by decide,by decide,.inl ⟨rfl,?_⟩⟩;refine r_newL (.law 12) (by rw[zA];exact zE (List.length_take_le _ _) (by decide)) ?_;refine⟨rfl,?_⟩;refine r_newL (.law 1) (by rw[zA];exact zE (List.length_take_le _ _) (by decide)) ?_;refine⟨.law 0,?_⟩;refine⟨nb rfl,?_⟩;refine ph1 _ _ 1 ⟨⟨0,yO _,alloc_eq⟩,?_,hl48⟩;clear e12 hl48 ph1;subst hcells;exact(alloc_t (nD rfl)).trans alloc_eq
end
end Q40.Internal
theorem PySem.Challenge.cw_qz0040_02_holds : PySem.Challenge.rw_qz0040_02.Holds :=
  Q40.Internal.law_of_spec 12 16 (by decide) Q40.Internal.law_spec
