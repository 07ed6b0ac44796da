import PyProof.Rows.All
import Wide.All
import OpenK.AllK
import PyProof.ModsPlain
import PyProof.NsDelKeeps
import KE.KSuperObj
import PyProof.SliceMore
import KE.KRevSl
import PyProof.ListIndexNeg
import PyProof.ListOps
import PyProof.Rows.Method
import PyProof.InstLoad
import PyProof.InstStoreFacts
import PyProof.Rows.AttrNodeAny
import PyProof.TupleIter
import PyProof.Rows.TupAssign
import PyProof.RangeIter
import PyProof.RangeFor
import PyProof.ForAny
import PyProof.WalksMore
import PyProof.Rows.Range3
import PyProof.CallType
import PyProof.WalkInts
import PyProof.MaxThree
import PyProof.ListCopy
import PyProof.Rows.RuleN_abs
import PyProof.ObjNew
import PyProof.Rows.PlainObj
import PyProof.RaisesMany
import PyProof.ExcInit
import PyProof.ExcBaseAll.Exception
import PyProof.ExcArgsOwn
import PyProof.ExcAttrAll.Exception
import PyProof.Rows.CatchOwn
import PyProof.CompFree
import KE.KSortTup
import KE.KStateDown
import Lean
import PySem.Challenge.RW_pq0323_01
set_option Elab.async false
noncomputable section
set_option bootstrap.genMatcherCode false
set_option genInjectivity false
set_option genSizeOf false
set_option tactic.hygienic false
set_option linter.all false
set_option maxRecDepth 100000
namespace LA
set_option genCtorIdx false in
inductive X where
 |Oh (i:Nat)
 |zn (n:Nat)
 |Zx (a b:X)
 |Zv (n:Nat) (a:X)
 |Zy (a:X) (n:Nat)
 |Zu (a b:X)
 |Zt (a:X)
inductive O where
 |le|lt|eq|LV|BK|ne
structure F where
 z:Bool
 o:O
 a:X
 b:X
def at_{α:Type}(d:α)(l:List α):Nat->α:=l.rec (λy=>d) λx y b i=>i.rec x λj y=>b j
def N9(u:List Nat)(x:X):Nat:=x.rec (at_ 0 u) id (λy y a b=>a+b) (λn y a=>n*a) (λy n a=>a*n) (λy y a b=>a+b) λy a=>a
def Tu(u:List Nat)(x:List Int)(y:X):Int:=y.rec (at_ 0 x) Int.ofNat (λz z a b=>a+b) (λn z a=>Int.ofNat n*a) (λz n a=>a*Int.ofNat n) (λz z a b=>a-b) λy z=>((N9 u y:Nat):Int)
noncomputable def O.N(o:O)(a b:Nat):Prop:=o.rec (a<=b) (a<b) (a=b) (¬a<=b) (¬a<b)<|¬a=b
noncomputable def O.Z(o:O)(a b:Int):Prop:=o.rec (a<=b) (a<b) (a=b) (¬a<=b) (¬a<b)<|¬a=b
noncomputable def F.D(u:List Nat)(x:List Int)(f:F):Prop:=f.z.rec (f.o.N (N9 u f.a)<|N9 u f.b)<|f.o.Z (Tu u x f.a)<|Tu u x f.b
def dot(l:List Int):List Int->Int:=l.rec (λy=>0) λc y aG x=>x.rec 0 λx xs y=>c*x+aG xs
def add(l:List Int):List Int->List Int:=l.rec id λa d c m=>m.rec (a::d) λb bs x=>(a+b)::c bs
noncomputable def afY(i:Nat):List Int:=i.rec [1] λx l=>0::l
def afB(c:Int)(l:List Int):List Int:=l.rec [] λa x b=>c*a::b
structure W where
 n:List Int
 z:List Int
 k:Int
def W.ev(u:List Int)(x:List Int)(w:W):Int:=dot w.n u+dot w.z x+w.k
def W.hq(a:W)(c:Int)(b:W):W:=⟨add a.n<|afB c b.n,add a.z<|afB c b.z,a.k+c*b.k⟩
theorem mP(a b c d:Int):a+b+(c+d)=a+c+(b+d):=by omega
theorem Bc(a b x:List Int):dot (add a b) x=dot a x+dot b x:=by
 induction a generalizing b x with
 |nil=>exact(Int.zero_add _).symm
 |cons a d c=>
  cases b with
  |nil=>exact(Int.add_zero _).symm
  |cons b bs=>
   cases x with
   |nil=>rfl
   |cons x xs=>exact(congr (congrArg _<|Int.add_mul a b x) (c bs xs)).trans<|mP ..
theorem x1(c:Int)(a x:List Int):dot (afB c a) x=c*dot a x:=by
 induction a generalizing x with
 |nil=>exact(Int.mul_zero _).symm
 |cons a d b=>
  cases x with
  |nil=>exact(Int.mul_zero _).symm
  |cons x xs=>exact(congr (congrArg _<|Int.mul_assoc c a x) (b xs)).trans (Int.mul_add ..).symm
theorem x2(i:Nat)(x:List Int):dot (afY i) x=at_ 0 x i:=by
 induction i generalizing x with
 |zero=>cases x with
  |nil=>rfl
  |cons x xs=>exact(Int.add_zero _).trans<|Int.one_mul x
 |succ i b=>cases x with
  |nil=>rfl
  |cons x xs=>exact(congr (congrArg _<|Int.zero_mul x) (b xs)).trans<|Int.zero_add _
theorem O8(u:List Nat)(i:Nat):at_ 0 (u.map Int.ofNat) i=Int.ofNat (at_ 0 u i):=by
 induction u generalizing i with
 |nil=>rfl
 |cons a u b=>cases i with
  |zero=>rfl
  |succ i=>exact b i
theorem en(u x:List Int)(a:W)(c:Int)(b:W):(a.hq c b).ev u x=a.ev u x+c*b.ev u x:=by show dot (add a.n<|afB c b.n) u+dot (add a.z<|afB c b.z) x+(a.k+c*b.k)=_;rw[Bc,Bc,x1,x1,mP<|dot a.n u,mP<|dot a.n u+dot a.z x,←Int.mul_add,←Int.mul_add];rfl
def UY(x:X):W:=x.rec (λi=>⟨afY i,[],0⟩) (λn=>⟨[],[],Int.ofNat n⟩) (λy y a b=>a.hq 1 b) (λn y a=>W.hq ⟨[],[],0⟩ (Int.ofNat n) a) (λy n a=>W.hq ⟨[],[],0⟩ (Int.ofNat n) a) (λy y a b=>a.hq 1 b) λy a=>a
def YA(x:X):W:=x.rec (λi=>⟨[],afY i,0⟩) (λn=>⟨[],[],Int.ofNat n⟩) (λz z a b=>a.hq 1 b) (λn z a=>W.hq ⟨[],[],0⟩ (Int.ofNat n) a) (λz n a=>W.hq ⟨[],[],0⟩ (Int.ofNat n) a) (λz z a b=>a.hq (-1) b) λy z=>UY y
theorem DC(u:List Nat)(x:List Int)(a:X):(UY a).ev (u.map Int.ofNat) x=Int.ofNat (N9 u a):=by
 induction a with
 |Oh i=>exact((Int.add_zero _).trans<|Int.add_zero _).trans<|(x2 ..).trans<|O8 ..
 |zn n=>exact Int.zero_add _
 |Zx a b c d=>exact(en ..).trans<|congr (congrArg _ c) ((Int.one_mul _).trans d)
 |Zv n a c=>exact(en ..).trans<|(Int.zero_add _).trans<|congrArg _ c
 |Zy a n c=>exact(en ..).trans ((Int.zero_add _).trans ((Int.mul_comm ..).trans (congrArg (·*Int.ofNat n) c)))
 |Zu a b c d=>exact(en ..).trans<|congr (congrArg _ c) ((Int.one_mul _).trans d)
 |Zt a c=>exact c
theorem LR(u:List Nat)(x:List Int)(a:X):(YA a).ev (u.map Int.ofNat) x=Tu u x a:=by
 induction a with
 |Oh i=>exact(Int.add_zero _).trans<|(Int.zero_add _).trans<|x2 ..
 |zn n=>exact Int.zero_add _
 |Zx a b c d=>exact(en ..).trans<|congr (congrArg _ c) ((Int.one_mul _).trans d)
 |Zv n a c=>exact(en ..).trans<|(Int.zero_add _).trans<|congrArg _ c
 |Zy a n c=>exact(en ..).trans ((Int.zero_add _).trans ((Int.mul_comm ..).trans (congrArg (·*Int.ofNat n) c)))
 |Zu a b c d=>exact(en ..).trans<|congr (congrArg _ c) ((Int.neg_one_mul _).trans<|congrArg _ d)
 |Zt a _=>exact DC u x a
def F.w(f:F):W:=f.z.rec ((UY f.b).hq (-1)<|UY f.a)<|(YA f.b).hq (-1)<|YA f.a
def O.s(o:O):Int:=o.rec 1 1 1 (-1) (-1) 0
def O.d(o:O):Int:=o.rec 0 (-1) 0 (-1) 0 0
def O.q(o:O):Bool:=o.rec false false true false false false
def F.v(f:F):W:=W.hq ⟨[],[],f.o.d⟩ f.o.s f.w
theorem F.int(f:F)(u:List Nat)(x:List Int):∃a b:Int,f.w.ev (u.map Int.ofNat) x=b-a/\(f.D u x↔f.o.Z a b):=by
 obtain⟨z,o,a,b⟩:=f
 cases z with
 |true=>exact⟨Tu u x a,Tu u x b,(en ..).trans<|(congr (congrArg HAdd.hAdd<|LR u x b) ((Int.neg_one_mul _).trans<|congrArg Neg.neg<|LR u x a)).trans Int.sub_eq_add_neg.symm,Iff.rfl⟩
 |false=>
  refine⟨Int.ofNat<|N9 u a,Int.ofNat<|N9 u b,(en ..).trans<|(congr (congrArg HAdd.hAdd<|DC u x b) ((Int.neg_one_mul _).trans<|congrArg Neg.neg<|DC u x a)).trans Int.sub_eq_add_neg.symm,?_⟩
  cases o with
  |le=>exact Int.ofNat_le.symm
  |lt=>exact Int.ofNat_lt.symm
  |eq=>exact Int.ofNat_inj.symm
  |LV=>exact not_congr Int.ofNat_le.symm
  |BK=>exact not_congr Int.ofNat_lt.symm
  |ne=>exact not_congr Int.ofNat_inj.symm
theorem F.Tx(f:F)(u:List Nat)(x:List Int):∃a b:Int,f.w.ev (u.map Int.ofNat) x=b-a/\f.v.ev (u.map Int.ofNat) x=f.o.d+f.o.s*(b-a)/\(f.D u x↔f.o.Z a b):=by obtain⟨a,b,e,h⟩:=f.int u x;exact⟨a,b,e,(en ..).trans (by rw[e];exact congrArg (·+_)<|Int.zero_add f.o.d),h⟩
theorem Hp{P:Prop}(h:false=true):P:=nomatch h
def nn(i:Int):Bool:=i.rec (λx=>true) λx=>false
def q2(i:Int):Bool:=i.rec (λn=>n.rec true λx x=>false) λx=>false
theorem xf{i:Int}(h:nn i=true):0<=i:=by
 cases i with
 |ofNat n=>exact Int.natCast_nonneg n
 |negSucc n=>exact nomatch h
theorem Mf{i:Int}(h:q2 i=true):i=0:=by
 cases i with
 |ofNat n=>cases n with
  |zero=>rfl
  |succ n=>exact nomatch h
 |negSucc n=>exact nomatch h
def allB(p:Int->Bool)(l:List Int):Bool:=l.rec true λa x r=>p a&&r
theorem vi{l:List Int}(h:allB q2 l=true)(x:List Int):dot l x=0:=by
 induction l generalizing x with
 |nil=>rfl
 |cons a l b=>
  have h:=Bool.and_eq_true_iff.mp h
  cases x with
  |nil=>rfl
  |cons x xs=>exact(congr (congrArg _ ((congrArg (·*x)<|Mf h.1).trans<|Int.zero_mul x)) (b h.2 xs)).trans<|Int.zero_add 0
theorem Sy{l:List Int}(h:allB nn l=true)(u:List Nat):0<=dot l (u.map Int.ofNat):=by
 induction l generalizing u with
 |nil=>exact Int.le_refl 0
 |cons a l b=>
  have h:=Bool.and_eq_true_iff.mp h
  cases u with
  |nil=>exact Int.le_refl 0
  |cons n u=>exact Int.add_nonneg (Int.mul_nonneg (xf h.1)<|Int.natCast_nonneg n)<|b h.2 u
def ge(k:Int)(g v:W):Bool:=(λr:W=>allB q2 r.z&&(allB nn r.n&&nn (r.k+k-1)))<|(W.hq ⟨[],[],0⟩ k g).hq (-1) v
theorem η{a b:Int}:0<=(0:Int)+1*(b-a)↔a<=b:=by omega
theorem μ{a b:Int}:0<=(-1:Int)+1*(b-a)↔a<b:=by omega
theorem ay{a b:Int}:0<=(-1:Int)+(-1)*(b-a)↔¬a<=b:=by omega
theorem bl{a b:Int}:0<=(0:Int)+(-1)*(b-a)↔¬a<b:=by omega
theorem cK{a b:Int}:(0:Int)+1*(b-a)=0↔a=b:=by omega
theorem g1{k g v dC b Pu:Int}(d:0<=k-1)(η:dC=0)(ay:0<=b)(bl:0<=Pu+k-1)(f:0<=v)(e:b+dC+Pu=0+0+0+k*g+-1*v):0<=g:=by refine Int.not_lt.mp λc=>?_;have cK:k*g<=k*(-1):=Int.mul_le_mul_of_nonneg_left (Int.le_sub_one_of_lt c) (by omega);omega
theorem g2{k x:Int}(b:0<=k-1)(e:(0:Int)+0+0=0+0+0+k*x+-1*0):x=0:=(Int.mul_eq_zero.mp<|show k*x=0 by omega).resolve_left (by omega)
theorem Dc{k:Int}{g v:W}(b:0<=k-1)(h:ge k g v=true)(u:List Nat)(x:List Int)(c:0<=v.ev (u.map Int.ofNat) x):0<=g.ev (u.map Int.ofNat) x:=
 have h:=Bool.and_eq_true_iff.mp h
 have μ:=Bool.and_eq_true_iff.mp h.2
 g1 b (vi h.1 x) (Sy μ.1 u) (xf μ.2) c ((en (u.map Int.ofNat) x (W.hq ⟨[],[],0⟩ k g) (-1) v).trans (congrArg (·+_)<|en (u.map Int.ofNat) x ⟨[],[],0⟩ k g))
def sum(d:List F):List Int->W:=d.rec (λx=>⟨[],[],0⟩) λf x b cs=>cs.rec ⟨[],[],0⟩ λc cs x=>(b cs).hq c f.v
def WV(d:List F):List Int->Bool:=d.rec (λx=>true) λf x b cs=>cs.rec true λc cs x=>(f.o.q||nn c)&&b cs
def O5(b:List F):Bool:=b.rec true λf x r=>f.o.q&&r
def o4(u:List Nat)(x:List Int)(b:List F):Prop:=∀f,f∈b->f.D u x
theorem F.fact{f:F}{u:List Nat}{x:List Int}(h:f.D u x):0<=f.v.ev (u.map Int.ofNat) x/\(f.o.q=true->f.v.ev (u.map Int.ofNat) x=0):=by
 obtain⟨a,b,_,e,i⟩:=f.Tx u x
 have h:=i.mp h
 rw[e]
 obtain⟨z,o,p,q⟩:=f
 cases o with
 |le=>exact⟨η.mpr h,Hp⟩
 |lt=>exact⟨μ.mpr h,Hp⟩
 |eq=>exact⟨Int.le_of_eq (cK.mpr h).symm,λy=>cK.mpr h⟩
 |LV=>exact⟨ay.mpr h,Hp⟩
 |BK=>exact⟨bl.mpr h,Hp⟩
 |ne=>exact⟨Int.le_of_eq ((Int.zero_add _).trans<|Int.zero_mul _).symm,Hp⟩
theorem S3(u:List Nat)(x:List Int)(b:List F):∀cs:List Int,WV b cs=true->o4 u x b->0<=(sum b cs).ev (u.map Int.ofNat) x/\(O5 b=true->(sum b cs).ev (u.map Int.ofNat) x=0):=by
 induction b with
 |nil=>exactλy y y=>⟨Int.le_refl 0,λy=>rfl⟩
 |cons f b j=>
  intro cs h H
  cases cs with
  |nil=>exact⟨Int.le_refl 0,λy=>rfl⟩
  |cons c cs=>
   have h:=Bool.and_eq_true_iff.mp h;have d:=F.fact<|H f<|.head _;have i:=j cs h.2 λg m=>H g<|.tail _ m;have e:(sum (f::b)<|c::cs).ev (u.map Int.ofNat) x=_:=en (u.map Int.ofNat) x (sum b cs) c f.v;rw[e];refine⟨Int.add_nonneg i.1 ?_,λq=>?_⟩
   ·rcases Bool.or_eq_true_iff.mp h.1 with q|q
    ·rw[d.2 q,Int.mul_zero];exact Int.le_refl 0
    ·exact Int.mul_nonneg (xf q) d.1
   ·have q:=Bool.and_eq_true_iff.mp q;rw[d.2 q.1,i.2 q.2,Int.mul_zero];rfl
def fin(b:List F)(g:F)(k:Int)(v:W):Bool:=g.o.rec (ge k g.v v) (ge k g.v v) (O5 b&&(λr:W=>allB q2 r.z&&(allB q2 r.n&&q2 r.k)) ((W.hq ⟨[],[],0⟩ k g.w).hq (-1) v)) (ge k g.v v) (ge k g.v v)<|ge k (W.hq ⟨[],[],-1⟩ 1 g.w) v||ge k (W.hq ⟨[],[],-1⟩ (-1) g.w) v
def bo(b:List F)(g:F)(cs:List Int):Bool:=cs.rec false λk cs x=>nn (k-1)&&(WV b cs&&fin b g k (sum b cs))
theorem af3{d:List F}{g:F}{cs:List Int}(h:bo d g cs=true){u:List Nat}{x:List Int}(H:o4 u x d):g.D u x:=by
 cases cs with
 |nil=>exact nomatch h
 |cons k cs=>
  have h:=Bool.and_eq_true_iff.mp h
  have f:=xf h.1
  have h:=Bool.and_eq_true_iff.mp h.2
  have j:=S3 u x d cs h.1 H
  have h:=h.2
  generalize sum d cs=v at*
  obtain⟨a,b,n,e,i⟩:=g.Tx u x
  refine i.mpr ?_
  obtain⟨z,o,p,q⟩:=g
  have G:ge k (F.v ⟨z,o,p,q⟩) v=true->0<=o.d+o.s*(b-a):=λh=>e▸Dc f h u x j.1
  cases o with
  |le=>exact η.mp<|G h
  |lt=>exact μ.mp<|G h
  |LV=>exact ay.mp<|G h
  |BK=>exact bl.mp<|G h
  |eq=>have h:=Bool.and_eq_true_iff.mp h;have μ:=Bool.and_eq_true_iff.mp h.2;have ay:=Bool.and_eq_true_iff.mp μ.2;have l:=(en (u.map Int.ofNat) x (W.hq ⟨[],[],0⟩ k<|F.w ⟨z,.eq,p,q⟩) (-1) v).trans (congrArg (·+_)<|en (u.map Int.ofNat) x ⟨[],[],0⟩ k<|F.w ⟨z,.eq,p,q⟩);rw[j.2 h.1,n]at l;exact(Int.sub_eq_zero.mp<|g2 f<|(congr (congrArg _<|congr (congrArg _<|vi ay.1 _) (vi μ.1 x)) (Mf ay.2)).symm.trans l).symm
  |ne=>
   have m:∀c:Int,(W.hq ⟨[],[],-1⟩ c<|F.w ⟨z,.ne,p,q⟩).ev (u.map Int.ofNat) x=-1+c*(b-a):=λc=>by rw[en,n];rfl
   rcases Bool.or_eq_true_iff.mp h with h|h
   ·exact Int.ne_of_lt<|μ.mp<|m 1▸Dc f h u x j.1
   ·exactλe=>ay.mp (m (-1)▸Dc f h u x j.1)<|Int.le_of_eq e
theorem al{f:F}{b:List F}{u:List Nat}{x:List Int}(h:f.D u x)(t:o4 u x b):o4 u x<|f::b:=λg m=>(List.mem_cons.mp m).elim (λe=>e▸h)<|t g
structure M where
 st:List X
 out:List<|F×Int
def pop(l:List X)(k:X->List X->M)(o:List<|F×Int):M:=l.rec ⟨[],o⟩ λx r y=>k x r
def lit(x:X):Nat:=x.rec id id (λy y y y=>0) (λy y y=>0) (λy y y=>0) (λy y y y=>0) λy y=>0
def two(m:M)(f:X->X->X):M:=pop m.st (λy r=>pop r (λx r=>⟨f x y::r,m.out⟩) m.out) m.out
noncomputable def rel(r:Nat):X->X->F:=F.mk (Nat.ble 6 r)<|(r%6).rec .le λx x=>(r%6-1).rec .lt λx x=>(r%6-2).rec .eq λx x=>(r%6-3).rec .LV λx x=>(r%6-4).rec .BK λx x=>.ne
def agf(m:M)(r s:Nat):M:=cond (Nat.ble 2 s) (pop m.st (λk r'=>pop r' (λy r'=>pop r' (λx z=>⟨[],(rel r x y,cond (Nat.beq s 2) (Int.ofNat<|lit k)<|-Int.ofNat (lit k))::m.out⟩) m.out) m.out) m.out)<|pop m.st (λy r'=>pop r' (λx z=>⟨[],(rel r x y,cond (Nat.beq s 0) 1<|-1)::m.out⟩) m.out) m.out
def run(n:Nat):Nat->M->M:=n.rec (λz m=>m) λz b c m=>cond (Nat.ble c 1) m<|(λt c=>cond (Nat.ble t 7) (b c ⟨.Oh t::m.st,m.out⟩)<|cond (Nat.beq t 8) (b (c/16/16^(c%16)) ⟨.zn (c/16%16^(c%16))::m.st,m.out⟩)<|cond (Nat.beq t 9) (b c<|two m .Zx)<|cond (Nat.beq t 10) (b c<|two m .Zu)<|cond (Nat.beq t 11) (b c<|pop m.st (λx r=>⟨.Zt x::r,m.out⟩) m.out)<|cond (Nat.beq t 12) (b c<|two m λx y=>.Zv (lit x) y)<|cond (Nat.beq t 13) (b c<|two m λx y=>.Zy x<|lit y)<|cond (Nat.beq t 14) (b (c/256)<|agf m (c%16)<|c/16%16)<|b (c/16) ⟨.Oh (8+c%16)::m.st,m.out⟩) (c%16)<|c/16
def dec(c:Nat):List<|F×Int:=(run 99 c ⟨[],[]⟩).out
def gl(l:List<|F×Int):F:=l.rec (.mk false .le (.zn 0)<|.zn 0) λp x x=>p.1
def fst(l:List<|F×Int):List F:=l.rec [] λp x r=>p.1::r
def snd(l:List<|F×Int):List Int:=l.rec [] λp x r=>p.2::r
def cb(l:List<|F×Int):List<|F×Int:=l.rec [] λx r x=>r
noncomputable def G(c:Nat)(u:List Nat)(x:List Int):Prop:=(gl<|dec c).D u x
def ok(c:Nat)(n:Nat):Bool:=(λl=>Nat.beq (fst l).length (n+1)&&bo (fst<|cb l) (gl l) (snd l))<|dec c
noncomputable def H(i:Nat)(c:Nat)(u:List Nat)(x:List Int):Prop:=(gl<|(i+1).rec (dec c) λy l=>cb l).D u x
theorem afn{l:List<|F×Int}{u:List Nat}{x:List Int}(h:Nat.beq (fst l).length 0=true):o4 u x<|fst l:=by
 cases l with
 |nil=>exactλy m=>nomatch m
 |cons a l=>exact nomatch h
theorem cg{l:List<|F×Int}{n:Nat}{u:List Nat}{x:List Int}(h:Nat.beq (fst l).length (n+1)=true)(g:(gl l).D u x)(r:Nat.beq (fst<|cb l).length n=true->o4 u x (fst<|cb l)):o4 u x<|fst l:=by
 cases l with
 |nil=>exact nomatch h
 |cons a l=>exact al g<|r h
theorem Vp{l:List<|F×Int}{n:Nat}(h:Nat.beq (fst l).length (n+1)=true):Nat.beq (fst<|cb l).length n=true:=by
 cases l with
 |nil=>exact nomatch h
 |cons a l=>exact h
theorem mE{c n:Nat}{u:List Nat}{x:List Int}(o:ok c n=true)(r:Nat.beq (fst<|cb<|dec c).length n=true->o4 u x (fst<|cb<|dec c)):G c u x:=
 have o:=Bool.and_eq_true_iff.mp o
 af3 o.2 (r<|Vp o.1)
end LA
namespace LA.I
open PySem
theorem ι:true=true:=rfl
theorem Θ{p:Prop}(h:(p->False)->False):p:=Classical.byContradiction h
theorem cR{α:Type}{x:α}{P:Prop}(h:none=some x):P:=nomatch h
theorem Oe{α:Type}{x:α}{P:Prop}(h:some x=none):P:=nomatch h
theorem acN{P:Prop}(h:true=false):P:=nomatch h
theorem w6{P:Prop}(h:false=true):P:=nomatch h
theorem AP{n:Nat}{P:Prop}(h:0=n+1):P:=nomatch h
theorem Of{n:Nat}{P:Prop}(h:n+1=0):P:=nomatch h
theorem OE(c:Nat)(u:List Nat)(x:List Int)(o:ok c 0=true):G c u x:=mE o λh=>afn h
theorem eB(c:Nat)(u:List Nat)(o:ok c 0=true):G c u []:=OE c u [] o
theorem bP(c:Nat)(u:List Nat)(x:List Int)(o:ok c 1=true)(η:H 0 c u x):G c u x:=mE o λh=>cg h η λh=>afn h
theorem aV(c:Nat)(u:List Nat)(o:ok c 1=true)(η:H 0 c u []):G c u []:=bP c u [] o η
theorem cP(c:Nat)(u:List Nat)(x:List Int)(o:ok c 2=true)(η:H 1 c u x)(μ:H 0 c u x):G c u x:=mE o λh=>cg h μ λh=>cg h η λh=>afn h
theorem ck(c:Nat)(u:List Nat)(o:ok c 2=true)(η:H 1 c u [])(μ:H 0 c u []):G c u []:=cP c u [] o η μ
theorem fB(c:Nat)(u:List Nat)(x:List Int)(o:ok c 3=true)(η:H 2 c u x)(μ:H 1 c u x)(ay:H 0 c u x):G c u x:=mE o λh=>cg h ay λh=>cg h μ λh=>cg h η λh=>afn h
theorem hB(c:Nat)(u:List Nat)(o:ok c 3=true)(η:H 2 c u [])(μ:H 1 c u [])(ay:H 0 c u []):G c u []:=fB c u [] o η μ ay
theorem oJ(c:Nat)(u:List Nat)(x:List Int)(o:ok c 4=true)(η:H 3 c u x)(μ:H 2 c u x)(ay:H 1 c u x)(bl:H 0 c u x):G c u x:=mE o λh=>cg h bl λh=>cg h ay λh=>cg h μ λh=>cg h η λh=>afn h
theorem nB(c:Nat)(u:List Nat)(o:ok c 4=true)(η:H 3 c u [])(μ:H 2 c u [])(ay:H 1 c u [])(bl:H 0 c u []):G c u []:=oJ c u [] o η μ ay bl
theorem OF(c:Nat)(u:List Nat)(x:List Int)(o:ok c 5=true)(η:H 4 c u x)(μ:H 3 c u x)(ay:H 2 c u x)(bl:H 1 c u x)(cK:H 0 c u x):G c u x:=mE o λh=>cg h cK λh=>cg h bl λh=>cg h ay λh=>cg h μ λh=>cg h η λh=>afn h
theorem HF(c:Nat)(u:List Nat)(o:ok c 5=true)(η:H 4 c u [])(μ:H 3 c u [])(ay:H 2 c u [])(bl:H 1 c u [])(cK:H 0 c u []):G c u []:=OF c u [] o η μ ay bl cK
theorem ac7(c:Nat)(u:List Nat)(x:List Int)(o:ok c 6=true)(η:H 5 c u x)(μ:H 4 c u x)(ay:H 3 c u x)(bl:H 2 c u x)(cK:H 1 c u x)(b:H 0 c u x):G c u x:=mE o λh=>cg h b λh=>cg h cK λh=>cg h bl λh=>cg h ay λh=>cg h μ λh=>cg h η λh=>afn h
theorem TS(c:Nat)(u:List Nat)(o:ok c 6=true)(η:H 5 c u [])(μ:H 4 c u [])(ay:H 3 c u [])(bl:H 2 c u [])(cK:H 1 c u [])(b:H 0 c u []):G c u []:=ac7 c u [] o η μ ay bl cK b
theorem ac8(c:Nat)(u:List Nat)(x:List Int)(o:ok c 7=true)(η:H 6 c u x)(μ:H 5 c u x)(ay:H 4 c u x)(bl:H 3 c u x)(cK:H 2 c u x)(b:H 1 c u x)(d:H 0 c u x):G c u x:=mE o λh=>cg h d λh=>cg h b λh=>cg h cK λh=>cg h bl λh=>cg h ay λh=>cg h μ λh=>cg h η λh=>afn h
theorem Ml(c:Nat)(u:List Nat)(o:ok c 7=true)(η:H 6 c u [])(μ:H 5 c u [])(ay:H 4 c u [])(bl:H 3 c u [])(cK:H 2 c u [])(b:H 1 c u [])(d:H 0 c u []):G c u []:=ac8 c u [] o η μ ay bl cK b d
theorem ac9(c:Nat)(u:List Nat)(x:List Int)(o:ok c 8=true)(η:H 7 c u x)(μ:H 6 c u x)(ay:H 5 c u x)(bl:H 4 c u x)(cK:H 3 c u x)(b:H 2 c u x)(e:H 1 c u x)(d:H 0 c u x):G c u x:=mE o λh=>cg h d λh=>cg h e λh=>cg h b λh=>cg h cK λh=>cg h bl λh=>cg h ay λh=>cg h μ λh=>cg h η λh=>afn h
theorem adl(c:Nat)(u:List Nat)(o:ok c 8=true)(η:H 7 c u [])(μ:H 6 c u [])(ay:H 5 c u [])(bl:H 4 c u [])(cK:H 3 c u [])(b:H 2 c u [])(e:H 1 c u [])(d:H 0 c u []):G c u []:=ac9 c u [] o η μ ay bl cK b e d
theorem ada(c:Nat)(u:List Nat)(x:List Int)(o:ok c 9=true)(η:H 8 c u x)(μ:H 7 c u x)(ay:H 6 c u x)(bl:H 5 c u x)(cK:H 4 c u x)(b:H 3 c u x)(e:H 2 c u x)(d:H 1 c u x)(f:H 0 c u x):G c u x:=mE o λh=>cg h f λh=>cg h d λh=>cg h e λh=>cg h b λh=>cg h cK λh=>cg h bl λh=>cg h ay λh=>cg h μ λh=>cg h η λh=>afn h
theorem O0(c:Nat)(u:List Nat)(o:ok c 9=true)(η:H 8 c u [])(μ:H 7 c u [])(ay:H 6 c u [])(bl:H 5 c u [])(cK:H 4 c u [])(b:H 3 c u [])(e:H 2 c u [])(d:H 1 c u [])(f:H 0 c u []):G c u []:=ada c u [] o η μ ay bl cK b e d f
noncomputable def Sl(o:Obj):Array DictEntry:=o.data.casesOn #[] (λx=>#[]) (λx x=>#[]) (λes x=>es) (λx x x=>#[]) (λx x=>#[]) (λx=>#[]) (λx=>#[]) (λx=>#[]) (λx=>#[]) #[]
inductive oX{α:Type}(A B C:α->Prop):Prop
 |mk (x:_):A x->B x->C x->oX A B C
inductive Ov{α:Type}(A B C D:α->Prop):Prop
 |mk (x:_):A x->B x->C x->D x->Ov A B C D
inductive ka{α β:Type}(A B:α->β->Prop):Prop
 |mk (x y:_):A x y->B x y->ka A B
inductive t4{α β:Type}(A B C:α->β->Prop):Prop
 |mk (x y:_):A x y->B x y->C x y->t4 A B C
inductive Hw{α β:Type}(A B C D:α->β->Prop):Prop
 |mk (x y:_):A x y->B x y->C x y->D x y->Hw A B C D
inductive Hx{α β:Type}(A B C D F:α->β->Prop):Prop
 |mk (x y:_):A x y->B x y->C x y->D x y->F x y->Hx A B C D F
inductive B7{α β hb:Type}(A B:α->β->hb->Prop):Prop
 |mk (x y z:_):A x y z->B x y z->B7 A B
inductive Ow{α β hb:Type}(A B C:α->β->hb->Prop):Prop
 |mk (x y z:_):A x y z->B x y z->C x y z->Ow A B C
inductive Ox{α β hb:Type}(A B C D:α->β->hb->Prop):Prop
 |mk (x y z:_):A x y z->B x y z->C x y z->D x y z->Ox A B C D
inductive Oy{α β hb AQ:Type}(A B:α->β->hb->AQ->Prop):Prop
 |mk (x y z w:_):A x y z w->B x y z w->Oy A B
section
variable {α β hb:Type}{M:Model}{A:Around}{E:Value->Shared->Prop}{s:Shared}
def ZC(M:Model)(A:Around)(E:Value->Shared->Prop)(f:α->Sem β)(Q:β->Shared->Prop):α->Shared->Prop:=λa s=>wpAny M A (f a) Q E s
theorem υ{m:Sem α}{f:α->Sem β}{Q:β->Shared->Prop}(h:wpAny M A m (ZC M A E f Q) E s):wpAny M A (m>>=f) Q E s:=wpAny_bind h
theorem cY{f:α->Sem β}{v:α}{Q:β->Shared->Prop}(h:wpAny M A (f v) Q E s):ZC M A E f Q v s:=h
theorem wP{v:α}{f:α->Sem β}{Q:β->Shared->Prop}(h:wpAny M A (f v) Q E s):wpAny M A (pure v>>=f) Q E s:=υ<|wpAny_pure h
theorem fN{a:Addr}{o:Obj}{f:Obj->Sem β}{Q:β->Shared->Prop}(b:s.heap.get? a=some o)(h:wpAny M A (f o) Q E s):wpAny M A (load a>>=f) Q E s:=υ<|wpAny_load b h
theorem i0{a:Addr}{p:Option Value}{o:Obj}{f:Obj->Sem β}{Q:β->Shared->Prop}(b:s.heap.get? a=some o)(h:wpAny M A (f o) Q E s):wpAny M A (loadPart a p>>=f) Q E s:=υ<|wpAny_loadPart b h
end
section
variable {α:Type}{P:Expr->Type}{S:Stmt->Type}{C:Const->Type}
noncomputable def E0(e:Expr)(f:∀x p,P<|.Name x p)(d:P e):P e:=if h:e.ctorIdx=23 then Expr.Name.elim (motive_1:=P) e h f else d
noncomputable def VT(e:Expr)(f:∀o x p,P<|.Attribute o x p)(d:P e):P e:=if h:e.ctorIdx=20 then Expr.Attribute.elim (motive_1:=P) e h f else d
noncomputable def VV(e:Expr)(f:∀es k p,P<|.Tuple es k p)(d:P e):P e:=if h:e.ctorIdx=25 then Expr.Tuple.elim (motive_1:=P) e h f else d
noncomputable def VW(e:Expr)(f:∀o x p,P<|.UnaryOp o x p)(d:P e):P e:=if h:e.ctorIdx=3 then Expr.UnaryOp.elim (motive_1:=P) e h f else d
noncomputable def VU(e:Expr)(f:∀l o r p,P<|.BinOp l o r p)(d:P e):P e:=if h:e.ctorIdx=2 then Expr.BinOp.elim (motive_1:=P) e h f else d
noncomputable def Ba(e:Expr)(f:∀c k p,P<|.Constant c k p)(d:P e):P e:=if h:e.ctorIdx=19 then Expr.Constant.elim (motive_1:=P) e h f else d
noncomputable def aah(s:Stmt)(f:∀o p,S<|.Return o p)(d:S s):S s:=if h:s.ctorIdx=3 then Stmt.Return.elim (motive_2:=S) s h f else d
noncomputable def aga(c:Const)(f:∀x,C<|.str x)(d:C c):C c:=if h:c.ctorIdx=5 then Const.str.elim (motive:=C) c h f else d
noncomputable def afH(c:Const)(f:∀i,C<|.int i)(d:C c):C c:=if h:c.ctorIdx=2 then Const.int.elim (motive:=C) c h f else d
section
variable (e:Expr)
def h3(f:Str->Pos->α):α->α:=E0 (P:=λx=>α) e f
def Tq(f:Expr->Str->Pos->α):α->α:=VT (P:=λx=>α) e f
def Md(f:List Expr->Nat->Pos->α):α->α:=VV (P:=λx=>α) e f
def Xd(f:UnaryOp->Expr->Pos->α):α->α:=VW (P:=λx=>α) e f
def Tr(f:Const->Nat->Pos->α):α->α:=Ba (P:=λx=>α) e f
noncomputable def Xc(f:Expr->Expr->Pos->α)(d:α):α:=if h:e.ctorIdx=21 then Expr.Subscript.elim (motive_1:=λx=>α) e h f else d
noncomputable def Tt(f:Option Expr->Option Expr->Option Expr->Pos->α)(d:α):α:=if h:e.ctorIdx=26 then Expr.Slice.elim (motive_1:=λx=>α) e h f else d
noncomputable def Ts(f:Expr->List Comprehension->Scope->Pos->α)(d:α):α:=if h:e.ctorIdx=8 then Expr.ListComp.elim (motive_1:=λx=>α) e h f else d
noncomputable def Ma(f:Expr->List Expr->List Keyword->Pos->α)(d:α):α:=if h:e.ctorIdx=16 then Expr.Call.elim (motive_1:=λx=>α) e h f else d
noncomputable def W9(f:BoolOp->List Expr->Pos->α)(d:α):α:=if h:e.ctorIdx=0 then Expr.BoolOp.elim (motive_1:=λx=>α) e h f else d
noncomputable def Xa(f:Expr->List CmpOp->List Expr->Pos->α)(d:α):α:=if h:e.ctorIdx=15 then Expr.Compare.elim (motive_1:=λx=>α) e h f else d
def W8(f:Expr->Operator->Expr->Pos->α):α->α:=VU (P:=λx=>α) e f
noncomputable def Xb(f:List Expr->Pos->α)(d:α):α:=if h:e.ctorIdx=24 then Expr.List.elim (motive_1:=λx=>α) e h f else d
noncomputable def acI(f:Expr->Expr->Expr->Pos->α)(d:α):α:=if h:e.ctorIdx=5 then Expr.IfExp.elim (motive_1:=λx=>α) e h f else d
noncomputable def acH(f:List (Option Expr)->List Expr->Pos->α)(d:α):α:=if h:e.ctorIdx=6 then Expr.Dict.elim (motive_1:=λx=>α) e h f else d
variable {e}
theorem Vt{Q:Expr->α->Prop}{f:_}{d:α}(η:∀l o r p,Q (.BinOp l o r p)<|f l o r p)(μ:Q e d):Q e<|W8 e f d:=if h:e.ctorIdx=2 then Expr.BinOp.elim e h η else(congrArg (Q e)<|dif_neg h).mpr μ
theorem Vx{Q:Expr->α->Prop}{f:_}{d:α}(η:∀x p,Q (.List x p)<|f x p)(μ:Q e d):Q e<|Xb e f d:=if h:e.ctorIdx=24 then Expr.List.elim e h η else(congrArg (Q e)<|dif_neg h).mpr μ
theorem acT{Q:Expr->α->Prop}{f:_}{d:α}(η:∀a b c p,Q (.IfExp a b c p)<|f a b c p)(μ:Q e d):Q e<|acI e f d:=if h:e.ctorIdx=5 then Expr.IfExp.elim e h η else(congrArg (Q e)<|dif_neg h).mpr μ
theorem acS{Q:Expr->α->Prop}{f:_}{d:α}(η:∀k v p,Q (.Dict k v p)<|f k v p)(μ:Q e d):Q e<|acH e f d:=if h:e.ctorIdx=6 then Expr.Dict.elim e h η else(congrArg (Q e)<|dif_neg h).mpr μ
theorem Vw{Q:Expr->α->Prop}{f:_}{d:α}(η:∀c k p,Q (.Constant c k p)<|f c k p)(μ:Q e d):Q e<|Tr e f d:=if h:e.ctorIdx=19 then Expr.Constant.elim e h η else(congrArg (Q e)<|dif_neg h).mpr μ
theorem od{Q:Expr->α->Prop}{f:_}{d:α}(η:∀x p,Q (.Name x p)<|f x p)(μ:Q e d):Q e<|h3 e f d:=if h:e.ctorIdx=23 then Expr.Name.elim e h η else(congrArg (Q e)<|dif_neg h).mpr μ
theorem L9{Q:Expr->α->Prop}{f:_}{d:α}(η:∀o x p,Q (.Attribute o x p)<|f o x p)(μ:Q e d):Q e<|Tq e f d:=if h:e.ctorIdx=20 then Expr.Attribute.elim e h η else(congrArg (Q e)<|dif_neg h).mpr μ
theorem Eh{Q:Expr->α->Prop}{f:_}{d:α}(η:∀x k p,Q (.Tuple x k p)<|f x k p)(μ:Q e d):Q e<|Md e f d:=if h:e.ctorIdx=25 then Expr.Tuple.elim e h η else(congrArg (Q e)<|dif_neg h).mpr μ
theorem Vz{Q:Expr->α->Prop}{f:_}{d:α}(η:∀o x p,Q (.UnaryOp o x p)<|f o x p)(μ:Q e d):Q e<|Xd e f d:=if h:e.ctorIdx=3 then Expr.UnaryOp.elim e h η else(congrArg (Q e)<|dif_neg h).mpr μ
theorem Vy{Q:Expr->α->Prop}{f:_}{d:α}(η:∀o i p,Q (.Subscript o i p)<|f o i p)(μ:Q e d):Q e<|Xc e f d:=if h:e.ctorIdx=21 then Expr.Subscript.elim e h η else(congrArg (Q e)<|dif_neg h).mpr μ
theorem Mc{Q:Expr->α->Prop}{f:_}{d:α}(η:∀a b c p,Q (.Slice a b c p)<|f a b c p)(μ:Q e d):Q e<|Tt e f d:=if h:e.ctorIdx=26 then Expr.Slice.elim e h η else(congrArg (Q e)<|dif_neg h).mpr μ
theorem Mb{Q:Expr->α->Prop}{f:_}{d:α}(η:∀x g t p,Q (.ListComp x g t p)<|f x g t p)(μ:Q e d):Q e<|Ts e f d:=if h:e.ctorIdx=8 then Expr.ListComp.elim e h η else(congrArg (Q e)<|dif_neg h).mpr μ
theorem Eg{Q:Expr->α->Prop}{f:_}{d:α}(η:∀g x k p,Q (.Call g x k p)<|f g x k p)(μ:Q e d):Q e<|Ma e f d:=if h:e.ctorIdx=16 then Expr.Call.elim e h η else(congrArg (Q e)<|dif_neg h).mpr μ
theorem Vu{Q:Expr->α->Prop}{f:_}{d:α}(η:∀o x p,Q (.BoolOp o x p)<|f o x p)(μ:Q e d):Q e<|W9 e f d:=if h:e.ctorIdx=0 then Expr.BoolOp.elim e h η else(congrArg (Q e)<|dif_neg h).mpr μ
theorem Vv{Q:Expr->α->Prop}{f:_}{d:α}(η:∀l o r p,Q (.Compare l o r p)<|f l o r p)(μ:Q e d):Q e<|Xa e f d:=if h:e.ctorIdx=15 then Expr.Compare.elim e h η else(congrArg (Q e)<|dif_neg h).mpr μ
end
end
theorem oe{e:Expr}{f:Str->Pos->Bool}(h:h3 e f false=true):∃n p,e=.Name n p/\f n p=true:=if q:e.ctorIdx=23 then Expr.Name.elim e q (λn p h=>⟨n,p,rfl,h⟩) h else absurd ((dif_neg q).symm.trans h) Bool.false_ne_true
theorem Kp{e:Expr}{f g:Str->Pos->Prop}(k:∀n p,f n p->g n p)(x:h3 e f False):h3 e g False:=if q:e.ctorIdx=23 then Expr.Name.elim e q k x else((dif_neg q).mp x).elim
theorem za{a b:Bool}{P:Prop}(h:(a||b)=true)(dH:a=true->P)(dD:b=true->P):P:=(Bool.or_eq_true_iff.mp h).elim dH dD
theorem bf{a b:Bool}(h:(a&&b)=true):a=true/\b=true:=Bool.and_eq_true_iff.mp h
theorem ψ{α:Type}{M:Model}{A:Around}{v:α}{Q:α->Shared->Prop}{E:Value->Shared->Prop}{s:Shared}(h:Q v s):wpAny M A (pure v) Q E s:=wpAny_pure h
section
variable {α:Type}{xs ys:List α}{a b:α}{i:Nat}
theorem b8(h:xs[i]?=some a):∃h:i<xs.length,xs[i]=a:=List.getElem?_eq_some_iff.mp h
theorem b3(h:i<xs.length):xs[i]?=some xs[i]:=List.getElem?_eq_getElem h
theorem Δ:(xs++ys).length=xs.length+ys.length:=List.length_append
theorem bp(xs ys b:List α):xs++ys++b=xs++(ys++b):=List.append_assoc xs ys b
theorem Φ(h:some a=some b):a=b:=Option.some.inj h
theorem ae6(h:a∈b::xs):a=b\/a∈xs:=List.mem_cons.mp h
end
theorem fF{a b:Nat}(h:b<=a):¬a<b:=Nat.not_lt.mpr h
theorem aal{P Q:Prop}(h:P->Q)(p:P):Q:=h p
end LA.I
namespace PQ.Internal
open PySem PySem.W PyProof.Rows PySem.Calls LA.I List Nat PySem.Heap Int PySem.Obj
variable {env:Env}{Q E:Value->Shared->Prop}{q:Addr}{prog:Program}{w:World}{M:Model}{A:Around}{s:Shared}
theorem IS{d0:Str->Option Value}{Q:Unit->Shared->Prop}(c:s.heap.Ns env.builtins d0)(b:d0 "__build_class__"=some (.builtin "__build_class__"))
 (h:Q () s):wpAny M A (buildClassGuard env) Q E s:=by
 refine υ<|wpAny_nsGet c ?_
 rw[b];exact ψ h
theorem tr(h:Heap):Frag.In [] h:=λx x e=>cR e
theorem vh(h:Heap):Looks (model prog w) h (typeOf<|.type "type")<|.type "type":=Looks.of_pure (by unfold typeOf;exact congrArg (λx=>pure<|Value.type x)<|by decide+kernel)
theorem sf:Slot "classmethod_descriptor" "__get__" "classmethod_descriptor.__get__":=
 .of (owner:="classmethod_descriptor") (n:="__get__") (by rw[typeLookup_type,builtinLookup_eq_fast];kernel_rfl) (by decide+kernel) (by decide+kernel) (by decide+kernel)
  (by first|exact .inl (by decide+kernel)|exact .inr<|by decide+kernel) (by rw[isSubtype_type];kernel_rfl)
theorem vA:entryFor table "classmethod_descriptor.__get__"=some Builtin.«classmethod_descriptor.__get__»:=entryFor_of_tree (by kernel_rfl)
theorem xC(a b c:Value):argsOk "classmethod_descriptor.__get__" ⟨[a,b,c],[]⟩:=by unfold argsOk;kernel_rfl
theorem Hh:typeOf (.builtin "type.__prepare__")=pure (.type "classmethod_descriptor"):=by show builtinType _=_;rw[builtinType_eq_fast];kernel_rfl
theorem C1:entryFor table "type.__prepare__"=some Builtin.«type.__prepare__»:=entryFor_of_tree (by kernel_rfl)
theorem Ha:opaqueClassAbove (.type "type")=pure none:=by unfold opaqueClassAbove;dsimp only;rw[show Manifest.isStub "type"=false by decide+kernel];rfl
theorem Kh{name:Str}{tk:Tok}{r:CFound}(e:findCls [] (.type "type") (.type "type") name=some r)
 (h:wpAny (model prog w) A.in1 r.run (λb s'=>match b with|.done (.ret v)=>Q v s'|_=>False) (λx x=>False) s):
 wpAny (model prog w) A (call (.builtin "type.__getattribute__") [.type "type",.str name tk]) Q E s:=by
 refine wpAny_call<|codeAny_call_builtin KF.slot_tga.plain KF.entry_tga ?_
 refine@check_slot (model prog w) _ _ s "type.__getattribute__" "type" "__getattribute__" (.type "type") [.str name tk] [] _ (by decide+kernel) (by decide+kernel) ((vh _).andThen<|looks_subIn (tr _)<|by kernel_rfl) (KF.args_tga _ _)<|tga_run (tr _) (Looks.of_pure Ha) (vh _) e<|wpAny_mono h (λb s' z=>?_) λx x z=>z.elim
 rcases b with(_|_|_|_)|_<;>first|exact z|exact z.elim
theorem As{Q:Option Value->Shared->Prop}
 (h:Q (some<|.ref s.heap.objs.size) {s with heap:=s.heap.push {cls:=.type "builtin_function_or_method",data:=.fields #[.builtin "type.__prepare__",.type "type"]},toks:=s.toks+1}):
 wpAny (model prog w) A (getAttr? (.type "type") "__prepare__") Q E s:=by
 refine υ<|wpAny_mkText<|υ<|wpAny_attempt ?_
 refine wpAny_holding<|υ<|(vh _).here<|υ<|((λh=>looks_findIn (tr h) type_tga) _).here ?_
 refine wP<|υ<|wpAny_attempt<|wpAny_holding ?_
 refine wP<|Kh (by kernel_rfl:findCls [] (.type "type") (.type "type") "__prepare__"=some (.get (.builtin "classmethod_descriptor.__get__") (.builtin "type.__prepare__") .none<|.type "type")) ?_
 refine υ<|wpAny_holding<|wpAny_call_entry sf Hh vA ?_<|xC _ _ _
 repeat' (first|(with_reducible refine υ ?_)|(with_reducible refine cY ?_)|lk)
 exact⟨_,rfl,ψ<|ψ<|ψ h⟩
theorem q9{id:String}{self:Value}{args:List Value}{b:Builtin}
 (g:s.heap.get? q=some {cls:=.type "builtin_function_or_method",data:=.fields #[.builtin id,self]})
 (d:plainId id=true) (f:entryFor table id=some b)
 (e:wpAny (model prog w) A.in1 (checkBoundCall id ⟨self::args,[]⟩) (λx aO=>wpAny (model prog w) A.in1 (b ⟨self::args,[]⟩) (λc s'=>match c with|.done (.ret v)=>Q v s'|_=>False) E aO) E s):
 wpAny (model prog w) A (call (.ref q) args) Q E s:=by
 refine wpAny_call<|codeAny_of_tree ?_
 refine(?_:wpAny _ A.in1 (callAny (.ref q) ⟨args,[]⟩) _ _ s)
 refine fN g ?_
 refine(?_:wpAny _ _ (do checkBoundCall id ⟨self::args,[]⟩;return←again (.builtin id ⟨self::args,[]⟩)) _ _ _)
 refine υ<|wpAny_mono e (λx aO i=>wP<|ψ ⟨plainId_quiet d _,codeAny_of_tree ?_⟩) λx x h=>h
 refine(?_:wpAny _ _ (match entryFor table id with|some b=>b _|none=>_) _ _ _)
 simp only[f,Around.under_plainId d]
 refine wpAny_mono i (λc s' z=>?_) λx x z=>z
 rcases c with(_|_|_|_)|_<;>first|exact z|exact z.elim
theorem zf{a b:Value}
 (c:s.heap.get? q=some {cls:=.type "builtin_function_or_method",data:=.fields #[.builtin "type.__prepare__",.type "type"]})
 (h:Q (.ref s.heap.objs.size) {s with heap:=s.heap.push {cls:=.type "dict",data:=.dict #[]}}):
 wpAny (model prog w) A (call (.ref q) [a,b]) Q E s:=by
 refine q9 c (by decide+kernel) C1 ?_
 delta checkBoundCall
 repeat' (first|(with_reducible refine υ ?_)|(with_reducible refine cY ?_)|lk)
 exact h
variable {c a N F f b:Addr}{ps:Array Value}{pos:Pos}{scope:Scope}{h κ:Heap}{m cJ:Str->Option Value}{P:Value->Prop}{hsh:Int}{t:Tok}{v:Value}{x qual:Str}{params:Arguments}{body:List Stmt}{S:List Addr}{o:Obj}
theorem xN{P:Addr}{m:Nat}{name f:Str}
 (L:env.code=.ref c) (R:s.heap.IsCode c P ps) (p:codeAmong pos ps.toList=none)
 (S:∀d h κ tk,ExtBut P s.heap κ->s.heap.objs.size<=d->s.heap.objs.size<=h->d<κ.objs.size->κ.IsCode c P (ps++#[rawInt pos.line,rawInt pos.col,.ref d])->κ.IsCode d h #[]->Q (.ref d) {s with heap:=κ,toks:=tk}):
 wpAny M A (classCode env pos m name f scope) Q E s:=by
 obtain⟨o,vs,l,J,j,K,I,k,T,op,w,y,B,H,z,D,G,g,i,t,x⟩:=id R
 unfold classCode codeAt
 rw[L]
 refine υ<|wpAny_fieldsOf w y ?_
 refine cY<|B▸?_
 refine υ<|wpAny_fieldsOf g i ?_
 refine cY<|p▸?_
 refine H▸(z▸?_)
 refine D▸(G▸?_)
 refine υ<|wpAny_newCode λd h κ tk n C v r O=>?_
 have u:=n _ _ g
 refine υ<|wpAny_updateFieldsOfTheText u i ?_
 have q:(mapFields (λvs=>if(codeAmong pos vs.toList).isSome=true then vs else vs++#[rawInt pos.line,rawInt pos.col,.ref d]) op).data=
  .fields (ps++#[rawInt pos.line,rawInt pos.col,.ref d]):=by
  rw[data_mapFields i,p];rfl
 have F:=get?_update_self (λo=>mapFields (λvs=>if(codeAmong pos vs.toList).isSome=true then vs else vs++#[rawInt pos.line,rawInt pos.col,.ref d]) o) u<|isFreed_of_fields q
 refine υ<|wpAny_fieldsOf F q ?_
 refine cY ?_
 simp only[(by simp:(ps++#[rawInt pos.line,rawInt pos.col,Value.ref d]).toList=ps.toList++[rawInt pos.line,rawInt pos.col,.ref d]),codeAmong_snoc _ t p]
 refine ψ<|S _ h _ _ (λb bu N e=>((SameBut.update ..).extBut b bu N<|n b bu e)) C v (by rw[size_after_update];exact r.lt.1) ?_ ?_
 ·exact⟨o,vs,l,J,j,K,I,k,T,_,(SameBut.update ..).extBut _ _ x<|n _ _ w,y,B,H,z,D,G,F,q,
   by rw[(by simp:(ps++#[rawInt pos.line,rawInt pos.col,Value.ref d]).toList=ps.toList++[rawInt pos.line,rawInt pos.col,.ref d])];exact TriplesOk_snoc _ _ _ _ t,x⟩
 ·exact r.extBut (SameBut.update ..).extBut (Nat.ne_of_gt<|Nat.lt_of_lt_of_le (lt_size g) C)<|Nat.ne_of_gt<|Nat.lt_of_lt_of_le (lt_size g) v
noncomputable abbrev ft(qual:Str)(scope:Scope)(N c F:Addr):Env:={scope:=scope,locals:=N,globals:=mainGlobals,cells:=[],qual:=qual++".",code:=.ref c,frame:=some F,builtins:=builtinsNs}
inductive dQ(h:Heap)(a:Addr)(m:Str->Option Value)(P:Value->Prop):Prop
 |mk (es n:_):h.get? a=some (dictOf es n)->(∀e∈es,∃x t,e.key=.str x t)->(∀x,(es.find? (λe=>e.key.isStr x)).map (·.val)=m x)->(∀e∈es,P e.val)->dQ h a m P
theorem dQ.ns(x:dQ h a m P):h.Ns a m:=by obtain⟨es,n,b,c,f,_⟩:=x;refine⟨_,_,_,b,rfl,λe d=>c e (by simpa using d),λy=>?_⟩;refine(f y)▸?_;simp[nsFind,findBy]
theorem dQ.keep(x:dQ h a m P)(k:∀o,h.get? a=some o->κ.get? a=some o):dQ κ a m P:=
 let⟨es,n,b,aX,c,d⟩:=x;⟨es,n,k _ b,aX,c,d⟩
theorem dQ.mono{b:Value->Prop}(x:dQ h a m P)(k:∀v,P v->b v):dQ h a m b:=
 let⟨es,n,c,aX,d,f⟩:=x;⟨es,n,c,aX,d,λe g=>k _<|f e g⟩
theorem vZ{name:Str}:∀{es:List DictEntry},(∀e∈es,∃x t,e.key=.str x t)->∀e∈putL name hsh (.str name t) v es,∃x t,e.key=.str x t:=by
 intro f
 induction f with
 |nil=>exactλy e he=>by cases List.mem_singleton.mp he;exact⟨_,_,rfl⟩
 |cons d r c=>
  intro b e he;unfold putL at he;split at he
  ·rcases ae6 he with rfl|he
   ·exact b d<|.head _
   ·exact b e<|.tail _ he
  ·rcases ae6 he with rfl|he
   ·exact b _<|.head _
   ·exact c (λe he=>b e<|.tail _ he) e he
theorem v3{name:Str}{k:Value}(c:P v):∀{es:List DictEntry},(∀e∈es,P e.val)->∀e∈putL name hsh k v es,P e.val:=by
 intro g
 induction g with
 |nil=>exactλx e he=>by cases List.mem_singleton.mp he;exact c
 |cons d r f=>
  intro b e he;unfold putL at he;split at he
  ·rcases ae6 he with rfl|he
   ·exact c
   ·exact b e<|.tail _ he
  ·rcases ae6 he with rfl|he
   ·exact b _<|.head _
   ·exact f (λe he=>b e<|.tail _ he) e he
theorem tE{name:Str}{es:List DictEntry}:(∀e∈es,∃x t,e.key=.str x t)->
 ((putL name hsh (.str name t) v es).find? λe=>e.key.isStr x).map (·.val)=if x=name then some v else(es.find? λe=>e.key.isStr x).map (·.val):=by
 induction es with
 |nil=>
  intro _;unfold putL;by_cases h:x=name
  ·subst h;simp[Value.isStr]
  ·have:¬name=x:=λe=>h e.symm;simp[Value.isStr,h,this]
 |cons d r i=>
  intro f;obtain⟨y,l,b⟩:=f d<|.head _;unfold putL;rw[b];by_cases c:(Value.str y l).isStr name=true
  ·rw[if_pos c];have g:y=name:=by simpa[Value.isStr]using c
   clear i f;subst g;by_cases h:x=y
   ·subst h;simp[Value.isStr]
   ·have:¬y=x:=λe=>h e.symm;simp[Value.isStr,h,this,b]
  ·rw[if_neg c];by_cases h:y=x;have g:¬y=name:=by simpa[Value.isStr]using c
   ·subst h;simp[Value.isStr,b,g]
   ·have j:(d.key.isStr x)=false:=by rw[b];simp[Value.isStr,h]
    simp only[find?_cons,find?_cons,j];exact i λe k=>f e<|.tail _ k
theorem Sg{name:Str}{Q:Unit->Shared->Prop}(d:dQ s.heap a m P)(f:P v)
 (h:∀κ,dQ κ a (λx=>if x=name then some v else m x) P->SameBut a s.heap κ->Q () {s with heap:=κ,toks:=s.toks+1}):
 wpAny M A (nsSet a name v) Q E s:=by
 obtain⟨es,n,b,c,j,l⟩:=d
 refine υ<|υ<|wpAny_askSetting<|ψ<|υ<|wpAny_mkText<|i0 b ?_
 dsimp only
 have k:es.any (·.refKey)=false:=by rw[List.any_eq_false];intro e g;obtain⟨n,t,h⟩:=c e g;simp[DictEntry.refKey,h]
 refine aRefKeyMayBeTheName_eq▸?_
 unfold aRefKeyMayBeTheNameByArray
 simp only[show es.toArray.any (·.refKey)=false by simpa using k,Bool.and_false]
 have e:=putName_dict name (if name.cps.isEmpty then 0 else reduceHash<|M.w.params.strHash name.cps) (.str name s.toks) v es n
 have i:(putName name (if name.cps.isEmpty then 0 else reduceHash<|M.w.params.strHash name.cps) (.str name s.toks) v<|dictOf es n).isFreed=false:=by rw[e];rfl
 refine wpAny_updatePart b<|h _ ⟨_,_,(get?_update_self _ b i).trans<|congrArg some e,vZ c,λx=>?_,v3 f l⟩<|SameBut.update ..
 rw[tE c,j]
def hc(h:Heap)(a:Addr)(k:Nat):Prop:=∀es n,h.get? a=some (dictOf es n)->es.length<=k
theorem hc.back{k:Nat}(x:hc h a k)(i:dQ h a m P)(g:∀o,h.get? a=some o->κ.get? a=some o):hc κ a k:=by
 obtain⟨es,n,b,_⟩:=i;intro d j e;rw[g _ b]at e;injection e with e;have:=x es n b;have f:es.toArray=d.toArray:=by have:=congrArg Sl e;exact this
 have c:=congrArg Array.toList f;simp only at c;exact c▸this
theorem zh{name:Str}{hsh:Int}{k v:Value}:∀{es:List DictEntry},(putL name hsh k v es).length<=es.length+1
 |[]=>Nat.le_refl _
 |d::r=>by
  unfold putL;split
  ·show(_::r).length<=_;simp
  ·have:=zh (name:=name) (hsh:=hsh) (k:=k) (v:=v) (es:=r);exact(aV 0x100e9118911819118000e911810 [_,_] ι this)
theorem Sh{name:Str}{Q:Unit->Shared->Prop}(f:dQ s.heap a m P)(i:P v)
 (h:∀κ,dQ κ a (λx=>if x=name then some v else m x) P->SameBut a s.heap κ->(∀k,hc s.heap a k->hc κ a (k+1))->Q () {s with heap:=κ,toks:=s.toks+1}):
 wpAny M A (nsSet a name v) Q E s:=by
 obtain⟨es,n,b,c,l,p⟩:=f
 refine υ<|υ<|wpAny_askSetting<|ψ<|υ<|wpAny_mkText<|i0 b ?_
 dsimp only
 have o:es.any (·.refKey)=false:=by rw[List.any_eq_false];intro e j;obtain⟨n,t,h⟩:=c e j;simp[DictEntry.refKey,h]
 refine aRefKeyMayBeTheName_eq▸?_
 delta aRefKeyMayBeTheNameByArray
 refine(show es.toArray.any (·.refKey)=false by simpa using o)▸?_
 rw[Bool.and_false]
 refine wpAny_updatePart b<|h _ ⟨_,_,(get?_update_self _ b (by rw[(putName_dict name (if name.cps.isEmpty then 0 else reduceHash<|M.w.params.strHash name.cps) (.str name s.toks) v es n)];rfl)).trans<|congrArg some<|putName_dict name (if name.cps.isEmpty then 0 else reduceHash<|M.w.params.strHash name.cps) (.str name s.toks) v es n,vZ c,λx=>?_,v3 i p⟩ (SameBut.update ..) λk x d q e'=>?_
 ·rw[tE c,l]
 ·rw[(get?_update_self _ b (by rw[(putName_dict name (if name.cps.isEmpty then 0 else reduceHash<|M.w.params.strHash name.cps) (.str name s.toks) v es n)];rfl)).trans<|congrArg some<|putName_dict name (if name.cps.isEmpty then 0 else reduceHash<|M.w.params.strHash name.cps) (.str name s.toks) v es n]at e';injection e' with e';have g:_=d:=congrArg Array.toList<|congrArg Sl e';rw[←g];exact Nat.le_trans zh<|Nat.add_le_add_right (x es n b) 1
theorem lO{Q:Unit->Shared->Prop}
 (b:scope.kind=.class) (l:scope.names.lookup x=some .local\/(scope.names.lookup x=none/\compilersOwnNames.contains x=true)) (d:dQ s.heap N m P) (j:P v)
 (h:∀κ,dQ κ N (λy=>if y=x then some v else m y) P->SameBut N s.heap κ->(∀k,hc s.heap N k->hc κ N (k+1))->Q () {s with heap:=κ,toks:=s.toks+1}):
 wpAny M A (storeName (ft qual scope N c F) x v) Q E s:=by
 have e:storeName (ft qual scope N c F) x v=localSet (ft qual scope N c F) x v:=by
  unfold storeName;have f:(ft qual scope N c F).kindOf x=scope.names.lookup x:=rfl;refine f▸?_;rcases l with e|⟨e,i⟩
  ·rw[e];simp[b]
  ·rw[e];simp[b,Env.blockKind];rintro(h|h)
   ·exact absurd h<|of_decide_eq_true rfl
   ·exact absurd i (by simpa using h)
 have go:wpAny M A (localSet (ft qual scope N c F) x v) Q E s:=by obtain⟨es,n,g,_⟩:=id d;exact fN g<|Sh d j h
 rw[e];exact go
def KK(X:Addr->Prop)(h κ:Heap):Prop:=∀b o,¬X b->(∀cd,o.data≠.cls cd)->h.get? b=some o->κ.get? b=some o
inductive FnAt(X:Addr->Prop)(h:Heap)(f:Addr)(name qual:Str)(params:Arguments)(body:List Stmt)(scope:Scope):Prop
 |mk (qH pm dB doc vs:_):h.get? f=some {cls:=.type "function",data:=.func (defFd name qual params body scope mainGlobals qH .none none pm (.ref dB) doc)}->¬X f->¬X dB->
  h.CodeRec (.ref dB) qual->ConstVals params.defaults vs->((vs=[]/\qH=.none)\/(vs≠[]/\∃T,qH=.ref T/\¬X T/\h.get? T=some {cls:=.type "tuple",data:=.seq vs.toArray}))->FnAt X h f name qual params body scope
theorem FnAt.keeps{X:Addr->Prop}{name:Str}(x:FnAt X h f name qual params body scope)
 (k:KK X h κ):FnAt X κ f name qual params body scope:=by
 refine Θ λu=>?_
 obtain⟨qH,pm,dB,doc,vs,s,l,j,⟨c,o,ws,t,r,m,i,p⟩,n,e⟩:=x
 obtain rfl:=Value.ref.inj r
 refine u ?_
 refine⟨qH,pm,dB,doc,vs,k _ _ l (λy q=>(nomatch q)) s,l,j,⟨_,o,ws,t,rfl,k _ _ j (λy q=>by rw[i]at q;cases q) m,i,p⟩,n,?_⟩
 rcases e with e|⟨a,T,b,g,d⟩
 ·exact .inl e
 ·exact .inr ⟨a,T,b,g,k _ _ g (λy q=>(nomatch q)) d⟩
theorem FnAt.mono{X Y:Addr->Prop}{name:Str}(x:FnAt X h f name qual params body scope)
 (k:∀b,Y b->X b):FnAt Y h f name qual params body scope:=by
 obtain⟨qH,pm,dB,doc,vs,l,j,i,m,g,c⟩:=x
 refine⟨qH,pm,dB,doc,vs,l,λq=>j<|k _ q,λq=>i<|k _ q,m,g,?_⟩
 rcases c with c|⟨a,T,b,e,d⟩
 ·exact .inl c
 ·exact .inr ⟨a,T,b,λq=>e<|k _ q,d⟩
def gR(S:List Addr)(v:Value):Prop:=(∃x t,v=.str x t)\/(∃i t,v=.int i t)\/v=.none\/∃a∈S,v=.ref a
theorem gR.mono{T:List Addr}(x:gR S v)(k:∀a∈S,a∈T):gR T v:=by
 rcases x with h|h|h|⟨a,h,e⟩
 ·exact .inl h
 ·exact .inr<|.inl h
 ·exact .inr<|.inr<|.inl h
 ·exact .inr<|.inr<|.inr ⟨a,k _ h,e⟩
theorem Gi{p:Obj}(f:h.get? a=some o)(d:h.get? b=some p)(c:o.cls≠p.cls):a≠b:=λe=>c<|congrArg Obj.cls<|Φ<|f.symm.trans<|(congrArg h.get? e).trans d
theorem R1{p:Obj}(f:h.get? a=some o)(d:h.get? b=some p)(c:o.data≠p.data):a≠b:=λe=>c<|congrArg Obj.data<|Φ<|f.symm.trans<|(congrArg h.get? e).trans d
inductive VD(h:Heap)(cJ:Str->Option Value)(P:Addr):Prop
 |mk (bm o:_):cJ "__builtins__"=some (.ref bm)->bm≠builtinsNs->bm≠mainGlobals->bm≠P->h.get? bm=some o->(o.cls=.type "module"/\o.dict=some builtinsNs/\o.data=.plain)->VD h cJ P
theorem A2{P:Addr}(x:h.BuiltinsAt cJ P):VD h cJ P:=by obtain⟨bm,o,a,b,c,d,e,f⟩:=x;exact⟨bm,o,a,b,c,d,e,f⟩
theorem PB{X:Addr->Prop}{g:Scope}{P:Addr}{name:Str}{Q:Flow->Shared->Prop}
 (u:params.kwonlyargs=[]) (Bs:params.kw_defaults=[]) (w:∀e∈params.defaults,e.isPlainConst=true) (Un:annTrees params none (ft qual g N c F)=[])
 (Us:∀x∈scope.names,x.2≠.free) (L:g.names.lookup name=some .local) (ak:g.kind=.class)
 (l:s.heap.Ns mainGlobals cJ) (kr:s.heap.IsCode c P ps) (m1:codeAmong pos ps.toList=none) (Y:mainGlobals≠P) (J:s.heap.BuiltinsAt cJ P) (p:dQ s.heap N m<|gR S) (C:N≠P) (vH:c≠N) (Bq:mainGlobals≠N)
 (yr:∀b,X b->b<s.heap.objs.size)
 (h:∀f i κ tk,dQ κ N (λy=>if y=name then some (.ref f)else m y) (gR<|f::S)->κ.IsCode c P (ps++#[rawInt pos.line,rawInt pos.col,.ref i])->κ.Ns mainGlobals cJ->κ.BuiltinsAt cJ P->s.heap.objs.size<=f->f<κ.objs.size->FnAt X κ f name (qual++"."++name) params body scope->(∀b o,b≠P->b≠N->s.heap.get? b=some o->κ.get? b=some o)->(∀k,hc s.heap N k->hc κ N (k+1))->Q .next {s with heap:=κ,toks:=tk}):
 wpAny M A (exec (.FunctionDef name params body [] none [] scope none name pos)<|ft qual g N c F) Q E s:=by
 have Bw:qualnameIn (ft qual g N c F) name name=qual++"."++name:=by delta qualnameIn;refine(show(ft qual g N c F).kindOf name=some .local from L)▸?_;rfl
 rw[exec_def,Bw,defaultsOf_eq,Bs,Un]
 refine υ<|wpAny_standAt<|υ<|wpAny_holding ?_
 refine υ<|wpAny_evalAll_consts _ _ _ w λvs acQ Rd=>?_
 refine υ<|wpAny_holding<|ψ ?_
 refine wpAny_holding<|wP ?_
 refine wpAny_makeFunction_d0 u Us l rfl kr m1 Y J λW B doc j acR H Z r dt I1 Ym=>υ<|wpAny_standAt ?_
 dsimp only at H Z r
 have I:=p.ns.lt
 have dH:∀b o,b≠P->s.heap.get? b=some o->(j.push {cls:=.type "function",data:=.func<|defFd name (qual++"."++name) params body scope mainGlobals W .none none ((cJ "__name__").getD .none) (.ref B) doc}).get? b=some o:=λb o ma e=>get?_push_of_some _<|Z b o ma e
 refine υ<|wpAny_bindName<|lO ak (.inl L) ((p.keep λo e=>dH _ _ C e).mono λv x=>gR.mono x λa h=>.tail _ h) (.inr<|.inr<|.inr ⟨_,.head _,rfl⟩) λκ G d V=>ψ ?_
 refine Θ λgB=>?_
 dsimp only at G d V
 obtain⟨bm,o,mZ,kh,jk,U,O,R⟩:=A2 J
 have dD:∀b o,b≠P->b≠N->s.heap.get? b=some o->κ.get? b=some o:=λb o D μ e=>(d.2 b μ).trans<|dH b o D e
 have d9:∀b o,s.heap.objs.size<=b->j.get? b=some o->κ.get? b=some o:=λb o D e=>(d.2 b<|Nat.ne_of_gt<|Nat.lt_of_lt_of_le I D).trans<|get?_push_of_some _ e
 have Le:bm≠N:=by obtain⟨es,n,a5,_⟩:=p;exact Gi O a5<|R.1▸(by decide:Value.type "module"≠Value.type "dict")
 have t:∀b,s.heap.objs.size<=b->¬X b:=λb q x=>Nat.lt_irrefl _<|Nat.lt_of_lt_of_le (yr b x) q
 refine gB ?_
 have z:=Nat.le_trans r<|Nat.le_of_lt dt
 refine h j.objs.size B κ _ G ((I1.push _).sameBut d vH C.symm) (l.at λo e=>dD _ o Y Bq e)
  ⟨bm,o,mZ,kh,jk,U,dD _ _ U Le O,R⟩ z (by rw[d.1];show _<(j.push _).objs.size;rw[Heap.size_push];exact lt_succ_self _) ?_ dD λk x=>V k (x.back p λo e=>dH _ _ C e)
 refine⟨W,_,B,doc,vs,(d.2 _<|Nat.ne_of_gt<|Nat.lt_of_lt_of_le I z).trans<|get?_push_size _ rfl,t _ z,t _ r,?_,Rd,?_⟩
 ·obtain⟨i,Su,VA,Zl,rQ,X1,r₂⟩:=Ym;obtain rfl:=Value.ref.inj rQ;exact⟨_,Su,VA,Zl,rfl,d9 _ _ r X1,r₂⟩
 ·rcases H with hd|⟨dy,T,e,K,l⟩
  ·exact .inl hd
  ·exact .inr ⟨dy,T,e,t _ K,d9 _ _ K l⟩
inductive h7{α β:Type}(R:α->β->Prop):List α->List β->Prop
 |nil:h7 R [] []
 |cons {a b l m:_}:R a b->h7 R l m->h7 R (a::l) (b::m)
structure bx where
 name:Str
 params:Arguments
 body:List Stmt
 scope:Scope
 pos:Pos
noncomputable def bx.stmt(d:bx):Stmt:=.FunctionDef d.name d.params d.body [] none [] d.scope none d.name d.pos
noncomputable def bx.ok(d:bx):Bool:=d.params.kwonlyargs.isEmpty&&d.params.kw_defaults.isEmpty&&d.params.defaults.all (·.isPlainConst)&&(d.params.args++d.params.posonlyargs++d.params.vararg.toList++d.params.kwonlyargs++d.params.kwarg.toList).all (·.annotation.isNone)&&d.scope.names.all λx=>x.2!=.free
theorem EC:∀{l:List Arg},l.all (·.annotation.isNone)=true->annotationsOf l env=[]:=by
 intro l
 induction l with
 |nil=>exactλy=>rfl
 |cons x r b=>
  intro h
  obtain⟨n,a,p⟩:=x
  cases a with
  |none=>exact b (bf h).2
  |some a=>exact w6 (bf h).1
structure bx.Good(d:bx):Prop where
 kw:d.params.kwonlyargs=[]
 i4:d.params.kw_defaults=[]
 const:∀e∈d.params.defaults,e.isPlainConst=true
 ann:∀env,annTrees d.params none env=[]
 free:∀x∈d.scope.names,x.2≠.free
theorem bx.good{d:bx}(h:d.ok=true):d.Good:=by obtain⟨nm,⟨n,o,i,j,m,k,ds⟩,bd,sc,ps⟩:=d;refine Θ λl=>?_;simp only[bx.ok,Bool.and_eq_true,List.isEmpty_iff]at h;obtain⟨⟨⟨⟨a,b⟩,c⟩,e⟩,f⟩:=h;refine l ⟨a,b,λx g=>List.all_eq_true.mp c x g,λenv=>?_,λx g=>by simpa using List.all_eq_true.mp f x g⟩;delta annTrees;dsimp only at e⊢;refine Eq.symm (EC e)▸?_;rfl
noncomputable def df:List bx->List Addr->(Str->Option Value)->(Str->Option Value)
 |d::ds,f::b,m=>df ds b (λy=>if y=d.name then some (.ref f)else m y)
 |_,_,m=>m
noncomputable def apart(p q:Pos):Bool:=!(p.line==q.line&&p.col==q.col)
theorem ME{H:Scope}{P n₁:Addr}(ak:H.kind=.class)(ri:N≠P)(vH:c≠N)(W:mainGlobals≠N)(yx:mainGlobals≠P)(u:N<n₁)(v:P<n₁):
 ∀(ds:List bx) (l:List<|Pos×Addr) (s:Shared) (m:Str->Option Value) (S:List Addr) (Q:Flow->Shared->Prop),
 (∀d∈ds,d.ok=true/\H.names.lookup d.name=some .local/\∀q∈l,apart q.1 d.pos=true)->(ds.Pairwise λd e=>apart d.pos e.pos=true)->n₁<=s.heap.objs.size->
 s.heap.Ns mainGlobals cJ->s.heap.IsCode c P (triples l).toArray->s.heap.BuiltinsAt cJ P->dQ s.heap N m (gR S)->
 (∀i p κ tk,i.length=ds.length->(∀a∈p,a∈S\/a∈i)->dQ κ N (df ds i m) (gR p)->κ.Ns mainGlobals cJ->κ.BuiltinsAt cJ P->s.heap.objs.size<=κ.objs.size->h7 (λ(d:bx) f=>FnAt (·<n₁) κ f d.name (qual++"."++d.name) d.params d.body d.scope/\f<κ.objs.size/\n₁<=f) ds i->(∀b o,b≠P->b≠N->s.heap.get? b=some o->κ.get? b=some o)->(∀k,hc s.heap N k->hc κ N (k+ds.length))->Q .next {s with heap:=κ,toks:=tk})->
 wpAny M A (execs (ds.map bx.stmt)<|ft qual H N c F) Q E s:=by
 intro dj
 induction dj with
 |nil=>exactλl s m S Q α α α C α j D h=>wpAny_execs_nil<|h [] S s.heap s.toks rfl (λa B=>.inl B) D C j (Nat.le_refl _) .nil (λα α α α e=>e) λα x=>x
 |cons d ds aG=>
  intro l s m S Q R J z C kr j D h;obtain⟨ok,dZ,w⟩:=R d<|.head _;have G:=bx.good ok;refine wpAny_execs_cons (PB (X:=(·<n₁)) G.kw G.i4 G.const (G.ann _) G.free dZ ak C kr ?_ yx j D ri vH W (λb j=>Nat.lt_of_lt_of_le j z) ?_)
  ·exact codeAmong_triples _ _ λq g e=>by have:=w q g;simp[apart,e.1,e.2]at this
  ·intro f n cI tk Ul I Uu Up r t e0 Uw Z;have e:((triples l).toArray++#[rawInt d.pos.line,rawInt d.pos.col,Value.ref n])=(triples<|l++[(d.pos,n)]).toArray:=by simp[triples_append]
   rw[e]at I;refine aG _ _ _ (f::S) Q (λL V=>?_) (pairwise_cons.mp J).2 (Nat.le_trans z (Nat.le_of_lt<|Nat.lt_of_le_of_lt r t):n₁<=cI.objs.size) Uu I Up Ul λi p κ nr y gH Y rl ma K ox U Uq=>?_
   ·obtain⟨a1,a2,h9⟩:=R L<|.tail _ V;refine⟨a1,a2,λq g=>?_⟩;rcases List.mem_append.mp g with g|g
    ·exact h9 q g
    ·obtain rfl:=List.mem_singleton.mp g;exact(pairwise_cons.mp J).1 L V
   ·refine h (f::i) p κ nr (by simp[y]) (λa B=>?_) Y rl ma (Nat.le_trans (Nat.le_of_lt<|Nat.lt_of_le_of_lt r t) K) (.cons ⟨e0.keeps λb o nb α e=>U b o (λq=>nb<|q▸v) (λq=>nb<|q▸u) e,Nat.lt_of_lt_of_le t K,Nat.le_trans z r⟩ ox) (λb o T O e=>U b o T O<|Uw b o T O e) λk x=>by have:=Uq _<|Z _ x;simp only[show k+(d::ds).length=k+1+ds.length by simp only[length_cons];exact(eB 0x102e91911809911810 [_,_] ι)];exact this
    rcases gH a B with q|q
    ·rcases ae6 q with rfl|q
     ·exact .inr<|.head _
     ·exact .inl q
    ·exact .inr<|.tail _ q
example:PySem.Builtin.typeSubclassesOfTheStartUp.contains "object"=true:=by decide+kernel
variable {i:Nat}{d:Option Addr}{α:Type}
theorem uL{T:String}{data:Data} (h:∀a κ,(∀b o,s.heap.get? b=some o->κ.get? b=some o)->κ.get? a=some {cls:=.type T,data:=data}->s.heap.objs.size=a->κ.objs.size=a+1->Q (.ref a) {s with heap:=κ})(c:sizeOk data)(d:({cls:=.type T,data:=data}:Obj).isFreed=false):wpAny M A (newObj (.type T) data) Q E s:=wpAny_newObj_type (h _ _ (λx x e=>get?_push_of_some _ e) (get?_push_size _ d) rfl<|Heap.size_push ..) c
theorem EB{Q:Addr->Shared->Prop}(c:o.isFreed=false)(h:∀a κ,(∀b o,s.heap.get? b=some o->κ.get? b=some o)->κ.get? a=some o->s.heap.objs.size=a->κ.objs.size=a+1->Q a {s with heap:=κ}):wpAny M A (alloc o) Q E s:=wpAny_alloc<|h _ _ (λx x e=>get?_push_of_some _ e) (get?_push_size _ c) rfl<|Heap.size_push ..
theorem Ko{p:Option Value}{f:Obj->Obj}{Q:Unit->Shared->Prop}(b:s.heap.get? a=some o)(c:(f o).isFreed=false)(h:∀κ,κ.get? a=some (f o)->SameBut a s.heap κ->Q () {s with heap:=κ}):wpAny M A (updatePart a p f) Q E s:=wpAny_updatePart b<|h _ (get?_update_self _ b c)<|SameBut.update ..
noncomputable def BW(o:Obj)(i:Nat)(v:Option Value):Obj:={o with slots:=(o.slots++Array.replicate (i+1-o.slots.size) none).setIfInBounds i v}
theorem J5{v:Option Value}{Q:Unit->Shared->Prop}(b:s.heap.get? a=some o)(d:o.isFreed=false)(c:i<100)
 (h:∀κ,κ.get? a=some (BW o i v)->SameBut a s.heap κ->Q () {s with heap:=κ}):wpAny M A (setSlotAt a i v) Q E s:=by
 unfold setSlotAt
 refine(if_neg (show¬i>=sizeLine by rw[sizeLine_eq];exact(aV 0x103e010000007801e64280 [_] ι c)))▸?_
 exact Ko b (Eq.trans (show(BW o i v).isFreed=o.isFreed by kernel_rfl) d) h
theorem J4{v:Option Value}{c:Value}{d:Option Addr}{f:ClassData}{du:Array<|Option Value}{Q:Unit->Shared->Prop}(p5:Array<|Option Value)(j:s.heap.get? a=some ⟨c,d,.cls f,du⟩)(k:i<100)
 (h:∀κ,κ.get? a=some ⟨c,d,.cls f,p5⟩->SameBut a s.heap κ->Q () {s with heap:=κ}) (e:(du++Array.replicate (i+1-du.size) none).setIfInBounds i v=p5):wpAny M A (setSlotAt a i v) Q E s:=
 J5 j rfl k λκ g b=>h κ (g.trans<|congrArg some (by show(⟨c,d,.cls f,_⟩:Obj)=_;rw[e])) b
theorem B2{c:Value}{cd:ClassData}{du:Array<|Option Value}{f:ClassData->ClassData}{Q:Unit->Shared->Prop}(b:s.heap.get? a=some ⟨c,d,.cls cd,du⟩)
 (e:(f cd).subclasses.length<=1000) (g:(f cd).slotNames.length<=1000)
 (h:∀κ,κ.get? a=some ⟨c,d,.cls<|f cd,du⟩->SameBut a s.heap κ->Q () {s with heap:=κ}):wpAny M A (updateCls a f) Q E s:=by
 delta updateCls
 refine fN b<|υ<|wpAny_update b ?_
 refine wpAny_lookBehind (get?_update_self _ b rfl:(s.heap.update a<|mapCls f).get? a=some ⟨c,d,.cls<|f cd,du⟩) ?_<|h _ (get?_update_self _ b rfl:(s.heap.update a<|mapCls f).get? a=some ⟨c,d,.cls<|f cd,du⟩)<|SameBut.update ..
 show(if _ then some _ else none)=none
 rw[if_neg]
 simp only[Bool.or_eq_true,decide_eq_true_eq,not_or,sizeLine_eq]
 constructor<;>lia
theorem lD{name:Str}{r:Option Value}{Q:Option Value->Shared->Prop}(c:dQ s.heap a m P)(b:m name=r)(h:Q r s):wpAny M A (nsGet a name) Q E s:=
 wpAny_nsGet c.ns (by rw[b];exact h)
theorem Sf{name:Str}{Q:Bool->Shared->Prop}(q:dQ s.heap a m P)
 (h:∀b κ v,dQ κ a (λx=>if x=name then v else m x) P->SameBut a s.heap κ->Q b {s with heap:=κ}):wpAny M A (nsDel a name) Q E s:=by
 obtain⟨es,n,j,o,r,u⟩:=id q
 refine i0 j<|nsHas_eq▸?_
 unfold nsHasByArray
 dsimp only[dictOf]
 have y:es.toArray.any (·.refKey)=false:=by rw[any_toArray,List.any_eq_false];intro e f;obtain⟨n,t,h⟩:=o e f;simp[DictEntry.refKey,h]
 have w:∀b,Q b s:=λb=>by
  refine h b s.1 (m name) ?_<|.refl ..
  have p:(λx=>if x=name then m name else m x)=m:=by
   funext x;by_cases c:x=name
   ·rw[if_pos c,c]
   ·rw[if_neg c]
  rw[p];exact q
 split
 ·refine wP ?_;have e:dropName name (dictOf es n)=dropNameByArray name (dictOf es n):=by rw[dropName_eq]
  cases k:es.findIdx? (λe=>e.key.isStr name)with
  |none=>
   have d:dropName name (dictOf es n)=dictOf es n:=by rw[e];unfold dropNameByArray dictOf;simp only[findIdx?_toArray,k]
   refine υ<|Ko j (by rw[d];rfl) λκ g l=>ψ<|h _ _ (m name) ?_ l
   have p:(λx=>if x=name then m name else m x)=m:=by
    funext x;by_cases c:x=name
    ·rw[if_pos c,c]
    ·rw[if_neg c]
   exact Eq.symm p▸⟨es,n,g.trans<|congrArg some d,o,r,u⟩
  |some i=>
   have d:dropName name (dictOf es n)=dictOf (es.eraseIdx i) (n+1):=by rw[e];unfold dropNameByArray dictOf;simp only[findIdx?_toArray,k,eraseIdxIfInBounds_toArray]
   refine υ (Ko j (by rw[d];rfl) λκ g l=>ψ (h _ _ (((es.eraseIdx i).find? λe=>e.key.isStr name).map (·.val)) ?_ l));refine⟨_,_,g.trans<|congrArg some d,λe f=>o e<|List.mem_of_mem_eraseIdx f,λx=>?_,λe f=>u e<|List.mem_of_mem_eraseIdx f⟩;by_cases c:x=name
   ·subst c;simp
   ·show _=if x=name then _ else m x;rw[if_neg c,←r];have:=nsFind_erase_other (es:=es.toArray) (by simpa using k) c;simpa[nsFind,findBy]using this
 ·refine υ<|Eq.symm y▸?_;exact ψ<|ψ<|w false
variable {C:Addr}{ms:Str->Option Value}
theorem cV{c:Prop}[Decidable c]{a b:Sem α}{Q:α->Shared->Prop}(d:¬c)(h:wpAny M A b Q E s):wpAny M A (if c then a else b) Q E s:=by rw[if_neg d];exact h
theorem hO{c:Prop}[Decidable c]{a b:Sem α}{Q:α->Shared->Prop}(d:c)(h:wpAny M A a Q E s):wpAny M A (if c then a else b) Q E s:=by rw[if_pos d];exact h
theorem F5{M:Model}{name:Str}(b:h.Ns a m):Looks M h (nsGet a name)<|m name:=λx x x x k q=>wpAny_nsGet (b.at λx e=>k _ _ e) q
theorem vQ{M:Model}{cl:Value}{gX:Option Addr}{cd:ClassData}{du:Array<|Option Value}(b:h.get? C=some ⟨cl,gX,.cls cd,du⟩):Looks M h (mroOf<|.ref C) cd.mro:=((Looks.ld b).andThen .now:Looks M h (classData C) cd).andThen .now
theorem Dx{M:Model}{cl:Value}{gX:Option Addr}{cd:ClassData}{du:Array<|Option Value}{ae1:List Value}(b:h.get? C=some ⟨cl,gX,.cls cd,du⟩)(c:cd.mro=.ref C::ae1):Looks M h (isSubtype (.ref C)<|.ref C) true:=by refine(vQ b).andThen ?_;rw[c];dsimp only;rw[if_neg<|of_decide_eq_true rfl];simp only[contains_cons,beq_self_eq_true,Bool.true_or];exact .now
theorem D9{cd:ClassData}{du:Array<|Option Value}{ae1:List Value}(i:s.heap.get? a=some ⟨.type "type",d,.cls cd,du⟩)(r:cd.mro=.ref a::ae1)
 (l:∀n κ,κ.get? n=some {cls:=.type "super",data:=.fields #[.ref a,.ref a,.ref a]}->(∀b o,s.heap.get? b=some o->κ.get? b=some o)->s.heap.objs.size<=κ.objs.size->Q (.ref n) {s with heap:=κ}):
 wpAny (model prog w) A (call (.type "super") [.ref a,.ref a]) Q E s:=by
 obtain⟨h,g,dr,t,os⟩:=s
 dsimp only at i l
 refine ks_callType_codesW (Q₁:=λf aO=>f=.ref h.objs.size/\aO=⟨h.push {cls:=.type "super",data:=.fields #[.none,.none,.none]},g,dr,t,os⟩) F.ks_called_super (ks_wpAny_checkTypeCall_super i rfl) F.ks_entry_super_init (ks_code_super_new _ _ ⟨rfl,rfl⟩) λf aO q=>?_
 obtain⟨rfl,rfl⟩:=q
 have j:∀y o,h.get? y=some o->(h.push {cls:=.type "super",data:=.fields #[.none,.none,.none]}).get? y=some o:=λy o e=>get?_push_of_some _ e
 have m:(h.push {cls:=.type "super",data:=.fields #[.none,.none,.none]}).get? h.objs.size=some {cls:=.type "super",dict:=none,data:=.fields #[.none,.none,.none],slots:=#[]}:=get?_push_at rfl rfl
 have p:Looks (model prog w) (h.push {cls:=.type "super",data:=.fields #[.none,.none,.none]}) (isSubtype (.ref a)<|.ref a) true:=Dx (j _ _ i) r
 refine⟨⟨_,m,rfl⟩,F.ks_initArgs_super _ _ _,?_⟩
 repeat (first|(with_reducible refine ks_wpAny_isType_cls (j _ _ i) rfl ?_)|(with_reducible refine Looks.at p ?_)|(with_reducible refine ks_wpAny_super_set3 m ?_)|(with_reducible refine υ ?_)|(with_reducible refine cY ?_)|wp_step)
 exactλκ e k=>⟨rfl,l _ κ e (λy o c=>k y o (ne_of_lt<|lt_size c)<|j y o c)<|Nat.le_of_lt<|lt_size e⟩
theorem C0:entryFor table "object.__init_subclass__"=some Builtin.«object.__init_subclass__»:=entryFor_of_tree (by kernel_rfl)
theorem wq:typeOf (.builtin "object.__init_subclass__")=pure (.type "classmethod_descriptor"):=by show builtinType _=_;rw[builtinType_eq_fast];kernel_rfl
theorem M3:typeLookup (.type "classmethod_descriptor") "__get__"=pure (some<|.builtin "classmethod_descriptor.__get__"):=sf.lookup
theorem Kf{n:Addr}{cd:ClassData}{du:Array<|Option Value}{tk:Tok}{K:Frag}{ae1:List Value}{Q:Fin->Shared->Prop}(X:K.In s.heap)(y:alongIn K "__init_subclass__" ae1=some (some<|.builtin "object.__init_subclass__"))(p:ae1.contains (.type "object")=true)(i:Looks (model prog w) s.heap (opaqueClassAbove<|.ref a) none)(l:s.heap.get? a=some ⟨.type "type",d,.cls cd,du⟩)(z:cd.mro=.ref a::ae1)
 (c:s.heap.get? n=some {cls:=.type "super",data:=.fields #[.ref a,.ref a,.ref a]})
 (j:∀q κ,κ.get? q=some {cls:=.type "builtin_function_or_method",data:=.fields #[.builtin "object.__init_subclass__",.ref a]}->(∀b o,s.heap.get? b=some o->κ.get? b=some o)->s.heap.objs.size<=κ.objs.size->Q (.done<|.ret<|.ref q) {s with heap:=κ}):
 wpAny (model prog w) A (Builtin.«super.__getattribute__» ⟨[.ref n,.str "__init_subclass__" tk],[]⟩) Q E s:=by
 obtain⟨h,g,dr,t,os⟩:=s
 dsimp only at l j c i X
 have r:Looks (model prog w) h (mroOf<|.ref a)<|.ref a::ae1:=z▸vQ l
 have B:((Value.ref a::ae1).dropWhile (·!=.ref a)).drop 1=ae1:=by rw[dropWhile_cons_of_neg<|by simp];rfl
 have f:({cls:=.type "super",dict:=none,data:=.fields #[.ref a,.ref a,.ref a],slots:=#[]}:Obj).data=.fields #[.ref a,.ref a,.ref a]:=rfl
 have u:(#[.ref a,.ref a,.ref a]:Array Value)[0]?=some (.ref a):=rfl
 have v:(#[.ref a,.ref a,.ref a]:Array Value)[1]?=some (.ref a):=rfl
 have x:(#[.ref a,.ref a,.ref a]:Array Value)[2]?=some (.ref a):=rfl
 have k:(("__init_subclass__":Str)==("__class__":Str))=false:=by decide
 repeat (first
  |(with_reducible refine wpAny_field c f u ?_)|(with_reducible refine wpAny_field c f v ?_)|(with_reducible refine wpAny_field c f x ?_)
  |(with_reducible refine ks_wpAny_notOpaque i ?_)
  |(with_reducible refine Looks.at r ?_;(try with_reducible refine cY ?_);rw[B])
  |(refine ks_forIn_along X (λY Y=>rfl) rfl ?_ y)
  |(with_reducible refine wpAny_of_eq wq ?_)
  |(with_reducible refine wpAny_of_eq M3 ?_)
  |(with_reducible refine υ ?_)|(with_reducible refine cY ?_)
  |((fail_if_success (with_reducible show wpAny _ _ (call _ _ _) _ _ _));wp_step)
  |(with_reducible refine cV (by rw[k];exact Bool.false_ne_true) ?_)|(simp only[k,beq_self_eq_true,Bool.false_eq_true,if_false])|dsimp only)
 refine wpAny_call_entry sf wq vA ?_<|xC _ _ _
 repeat' (first|(with_reducible refine υ ?_)|(with_reducible refine cY ?_)|lk)
 refine cV (λq=>?_) ?_
 ·have m:(!(Value.ref a::ae1).contains (Value.type "object"))=true:=q;rw[contains_cons,p,Bool.or_true]at m;cases m
 repeat' (first|(with_reducible refine υ ?_)|(with_reducible refine cY ?_)|lk)
 refine⟨_,rfl,?_⟩
 repeat' (first|(with_reducible refine υ ?_)|(with_reducible refine cY ?_)|lk)
 exact j _ _ (get?_push_size _ rfl) (λb o e=>get?_push_of_some _ e) (by rw[Heap.size_push];exact le_succ _)
theorem F6{M:Model}(b:h.Ns cStatics ms)(e:ms "thirdparty.any"=none):Looks M h (opaqueClassAbove<|.ref C) none:=
 Looks.andThen (a:=false) ((e▸F5 b:Looks M h (nsGet cStatics "thirdparty.any") none).andThen .now) (by show Looks M h (if(!false)=true then pure none else _) none;rw[if_pos<|show(!false)=true from rfl];exact .now)
theorem D8{e:Addr}{cd:ClassData}{du:Array<|Option Value}{K:Frag}{ae1:List Value}(X:K.In s.heap)(m:alongIn K "__init_subclass__" ae1=some (some<|.builtin "object.__init_subclass__"))(h:ae1.contains (.type "object")=true)(l:s.heap.Ns cStatics ms)(p:ms "thirdparty.any"=none)
 (j:s.heap.get? a=some ⟨.type "type",d,.cls cd,du⟩) (n:cd.mro=.ref a::ae1)
 (f:s.heap.get? e=some {cls:=.type "super",data:=.fields #[.ref a,.ref a,.ref a]})
 (i:∀q κ tk,κ.get? q=some {cls:=.type "builtin_function_or_method",data:=.fields #[.builtin "object.__init_subclass__",.ref a]}->(∀b o,s.heap.get? b=some o->κ.get? b=some o)->s.heap.objs.size<=κ.objs.size->Q (.ref q) {s with heap:=κ,toks:=tk}):
 wpAny (model prog w) A (getAttr (.ref e) "__init_subclass__") Q E s:=by
 refine υ<|wpAny_mkText<|wpAny_holding<|υ<|wpAny_typeOf ((λx=>⟨_,f,rfl⟩:∀g,(⟨s.1,s.2,s.3,g,s.5⟩:Shared).TypeIs (.ref e) "super") _)<|υ<|wpAny_of_eq F.ks_slot_super_ga.lookup ?_
 refine(?_:wpAny _ _ (getAttrByItsOwn (.ref e) (.str "__init_subclass__" s.4) (.type "super") (.builtin "super.__getattribute__") _ _) _ _ _)
 refine υ<|wpAny_of_eq (show(if onTheHeap (.type "super")then typeLookup (.type "super") "__getattr__"else pure none)=pure none from rfl) ?_
 refine υ<|wpAny_attempt<|wpAny_holding ?_
 refine wpAny_ite<|υ<|wpAny_of_eq (F.ks_slot_super_ga.bind _) ?_
 refine wpAny_mono (Q:=λv s'=>∃q κ,v=.ref q/\s'=⟨κ,s.2,s.3,s.4+1,s.5⟩/\κ.get? q=some {cls:=.type "builtin_function_or_method",data:=.fields #[.builtin "object.__init_subclass__",.ref a]}/\(∀b o,s.1.get? b=some o->κ.get? b=some o)/\s.1.objs.size<=κ.objs.size) (E:=λx x=>False) (wpAny_call_entry F.ks_slot_super_ga ((λx=>⟨_,f,rfl⟩:∀g,(⟨s.1,s.2,s.3,g,s.5⟩:Shared).TypeIs (.ref e) "super") _) F.ks_entry_super_ga (Kf X m h (F6 l p) j n f λq κ a b c=>⟨_,rfl,q,κ,rfl,rfl,a,b,c⟩)<|F.ks_gaArgs_super _ _) (λv s' k=>?_) λx x z=>z.elim
 obtain⟨q,κ,rfl,rfl,a,b,c⟩:=k
 exact ψ<|i _ _ _ a b c
theorem N0(x y z:String)(b:y=".")(hz:z="__init_subclass__"):(x++y++z !="*")=true:=by subst b hz;rw[bne_iff_ne];intro h;have:=congrArg String.length h;simp only[String.length_append]at this;exact(Nat.lt_irrefl 0<|aV 0x121e426848080802e1189112891180 [_] ι this)
theorem I8{cd:ClassData}{du:Array<|Option Value}(c:s.heap.get? a=some ⟨.type "type",d,.cls cd,du⟩)(b:s.heap.get? q=some {cls:=.type "builtin_function_or_method",data:=.fields #[.builtin "object.__init_subclass__",.ref a]})(h:Q .none s):
 wpAny (model prog w) A (call (.ref q) []) Q E s:=by
 refine q9 b (by decide+kernel) C0 ?_
 repeat' (first|(with_reducible refine wpAny_of_eq (by rw[isSubtype_type];kernel_rfl:isSubtype (.type "type") (.type "module")=pure false) ?_)|(with_reducible refine υ ?_)|(with_reducible refine cY ?_)|lk)
 refine hO (N0 _ _ _ rfl<|by decide+kernel) ?_
 repeat' (first|(with_reducible refine wpAny_of_eq (by rw[isSubtype_type];kernel_rfl:isSubtype (.type "type") (.type "module")=pure false) ?_)|(with_reducible refine υ ?_)|(with_reducible refine cY ?_)|lk)
 exact h
theorem Ab:isSubtype (.type "tuple") (.type "tuple")=pure true:=by rw[isSubtype_type];kernel_rfl
theorem CD:isSubtype (.type "dict") (.type "dict")=pure true:=by rw[isSubtype_type];kernel_rfl
theorem H3:Builtin.notOverATurnedClass [.type "object"]=pure ():=by kernel_rfl
theorem T2:Builtin.extendedBase [.type "object"]=pure (.type "object"):=by kernel_rfl
theorem Pn:Builtin.mroHook? (.type "type")=pure none:=by kernel_rfl
theorem T3:Builtin.linearize [.type "object"] mroOf=pure [.type "object"]:=by kernel_rfl
theorem Pp:Bind.madeBy (.type "object")=pure (some "object.__new__"):=by kernel_rfl
theorem ES:Builtin.Slots.givesWeak (.type "object")=pure false:=by kernel_rfl
theorem Pm:Builtin.Slots.givesDict (.type "object")=pure false:=by kernel_rfl
theorem Pl:Builtin.Slots.bestBase [.type "object"]=pure (.type "object"):=by kernel_rfl
theorem MG:Builtin.Slots.slotNamesOf (.type "object")=pure []:=by kernel_rfl
theorem T4:Builtin.Slots.varSize (.type "object")=pure false:=by kernel_rfl
theorem Po:typeLookup (.type "dict") "__iter__"=pure (some<|.builtin "dict.__iter__"):=by rw[typeLookup_type,builtinLookup_eq_fast];kernel_rfl
variable {es:Array DictEntry}
theorem read0{name:Str}(h:es.find? (λe=>e.key.isStr "__slots__")=none):Builtin.Slots.read name [.type "object"] es=pure {inherited:=[],dict:=true,weak:=true}:=by unfold Builtin.Slots.read;rw[Pl,pure_bind,MG,pure_bind,Pm,pure_bind,ES,pure_bind,T4,pure_bind,h];rfl
variable {β σ:Type}
theorem E9{f:β->σ->Sem (ForInStep σ)}{b:σ}{Q:σ->Shared->Prop}(h:Q b s):∀{l:List β},(∀x∈l,∀d:ForInStep σ->Shared->Prop,d (.yield b) s->wpAny M A (f x b) d E s)->wpAny M A (forIn l b f) Q E s:=by
 intro i
 induction i with
 |nil=>exactλz=>by rw[forIn_nil];exact ψ h
 |cons x l e=>intro c;rw[forIn_cons];exact υ<|c x (.head _) _<|e λy g=>c y<|.tail _ g
theorem x8{f:β->σ->Sem (ForInStep σ)}{b:σ}{Q:σ->Shared->Prop}{l:List β}(h:Q b s)(d:∀x∈l,∀c:ForInStep σ->Shared->Prop,c (.yield b) s->wpAny M A (f x b) c E s):wpAny M A (forIn l.toArray b f) Q E s:=by rw[List.forIn_toArray];exact E9 h d
def e6(h:Heap)(a:Addr):Prop:=∃T o,(T="function"\/T="tuple"\/T="getset_descriptor")/\h.get? a=some o/\o.cls=.type T/\∀cd,o.data≠.cls cd
theorem e6.keep(x:e6 h a)(k:∀o,h.get? a=some o->κ.get? a=some o):e6 κ a:=x.elim λT b=>b.elim λo c=>c.elim λp d=>d.elim λe r=>⟨T,o,p,k _ e,r⟩
theorem NZ{T:String}(h:T="function"\/T="tuple"\/T="getset_descriptor"):typeLookup (.type T) "__set_name__"=pure none:=by rcases h with rfl|rfl|rfl<;>(rw[typeLookup_type,builtinLookup_eq_fast];kernel_rfl)
theorem SW:typeLookup (.type "str") "__set_name__"=pure none:=by rw[typeLookup_type,builtinLookup_eq_fast];kernel_rfl
theorem SV:typeLookup (.type "int") "__set_name__"=pure none:=by rw[typeLookup_type,builtinLookup_eq_fast];kernel_rfl
theorem Vl:typeLookup (.type "NoneType") "__set_name__"=pure none:=by rw[typeLookup_type,builtinLookup_eq_fast];kernel_rfl
theorem Vk{Q:Option Value->Shared->Prop}(h:gR S v)(g:∀a∈S,e6 s.heap a)(b:Q none s):wpAny M A (specialOf v "__set_name__") Q E s:=by
 rcases h with⟨x,t,rfl⟩|⟨x,t,rfl⟩|rfl|⟨a,e,rfl⟩
 ·exact υ<|wpAny_of_eq (rfl)<|wpAny_of_eq SW b
 ·exact υ<|wpAny_of_eq (rfl)<|wpAny_of_eq SV b
 ·exact υ<|wpAny_of_eq (rfl)<|wpAny_of_eq Vl b
 ·obtain⟨T,o,f,d,c,_⟩:=g a e;refine υ<|wpAny_typeOf ⟨o,d,c⟩<|wpAny_of_eq (NZ f) b
theorem Nm{k:Value}(h:gR S v):Builtin.laidUnderItsOwnName k v=false:=by rcases h with⟨x,t,rfl⟩|⟨x,t,rfl⟩|rfl|⟨a,b,rfl⟩<;>cases k<;>rfl
noncomputable abbrev gy(name qn:Str)(t tq:Tok)(bases mro:List Value)(ns:Addr)(mk:String)(ed:Option Value)(subs:List Value):Obj:=⟨.type "type",none,.cls {name:=name,bases:=bases,mro:=mro,ns:=ns,qualname:=qn,subclasses:=subs},#[ed,none,some<|.str name t,some<|.str qn tq,some<|.builtin mk,some<|.bool true]⟩
noncomputable def qv:List Str:=["__qualname__","__dict__","__weakref__","__doc__"]
theorem vo{es:List DictEntry}(b:∀x,(es.find? λe=>e.key.isStr x).map (·.val)=m x):es.toArray.any (λe=>e.key.isStr x)=(m x).isSome:=by rw[←b,Option.isSome_map,List.isSome_find?,any_toArray]
theorem IC:Builtin.notOverATurnedClass [.type "Exception"]=pure ():=by kernel_rfl
theorem Ud:Builtin.extendedBase [.type "Exception"]=pure (.type "Exception"):=by kernel_rfl
theorem Ue:Builtin.linearize [.type "Exception"] mroOf=pure [.type "Exception",.type "BaseException",.type "object"]:=by kernel_rfl
theorem PN:Bind.madeBy (.type "Exception")=pure (some "Exception.__new__"):=by kernel_rfl
theorem E8:Builtin.Slots.givesWeak (.type "Exception")=pure false:=by kernel_rfl
theorem PJ:Builtin.Slots.givesDict (.type "Exception")=pure true:=by kernel_rfl
theorem PI:Builtin.Slots.bestBase [.type "Exception"]=pure (.type "Exception"):=by kernel_rfl
theorem MT:Builtin.Slots.slotNamesOf (.type "Exception")=pure []:=by kernel_rfl
theorem Ug:Builtin.Slots.varSize (.type "Exception")=pure false:=by kernel_rfl
theorem PO{name:Str}(h:es.find? (λe=>e.key.isStr "__slots__")=none):Builtin.Slots.read name [.type "Exception"] es=pure {inherited:=[],dict:=false,weak:=true}:=by unfold Builtin.Slots.read;rw[PI,pure_bind,MT,pure_bind,PJ,pure_bind,E8,pure_bind,Ug,pure_bind,h];rfl
noncomputable def jI(x:Str):Bool:=x.opensWith "type.__subclasses__."
theorem Si(x:h.Ns a m)(i:∀y,m y=none):ka (λo n=>h.get? a=some o) λo n=>o.data=.dict #[] n:=by
 obtain⟨o,es,n,b,d,c,g⟩:=x
 refine⟨o,n,b,?_⟩
 rw[d]
 congr
 rcases es with⟨l⟩
 cases l with
 |nil=>rfl
 |cons e r=>obtain⟨y,t,f⟩:=c e (by simp);have:=(g y).trans<|i y;simp[nsFind,findBy,f,Value.isStr]at this
theorem H2{name:Str}{Q:Unit->Shared->Prop}(b:s.heap.Ns a m)(e:∀y,m y=none)
 (h:∀κ,κ.Ns a (λx=>if x=name then some v else m x)->SameBut a s.heap κ->Q () {s with heap:=κ,toks:=s.toks+1}):wpAny M A (nsSetByValue a name v) Q E s:=by
 obtain⟨o,n,c,d⟩:=Si b e
 unfold nsSetByValue
 refine i0 c ?_
 rw[d]
 dsimp only
 rw[if_neg<|by simp]
 exact wpAny_nsSet b h
variable {B:Addr}
theorem Ph:Builtin.c3Merge 4 [[.ref B,.type "object"],[.ref B]]=.ok [.ref B,.type "object"]:=by simp[Builtin.c3Merge];rfl
theorem Pj:Builtin.c3Merge (List.foldl (λb gM=>b+gM) [Value.ref B].length (List.map length [[Value.ref B,Value.type "object"]].reverse)+1) ([[Value.ref B,Value.type "object"]].reverse++[[Value.ref B]])=.ok [.ref B,.type "object"]:=Ph
variable {eu:Addr}
theorem zN:Bind.madeBy (.type "type")=pure (some "type.__new__"):=by kernel_rfl
theorem Ag:entryFor table "type.__call__"=some Builtin.«type.__call__»:=entryFor_of_tree (by kernel_rfl)
theorem C2:entryFor table "type.__new__"=some Builtin.«type.__new__»:=entryFor_of_tree (by kernel_rfl)
theorem Ah:entryFor table "type.__init__"=some Builtin.«type.__init__»:=entryFor_of_tree (by kernel_rfl)
theorem Th:isSubtype (.type "type") (.type "type")=pure true:=by rw[isSubtype_type];kernel_rfl
theorem N7:typeLookup (.type "type") "__init__"=pure (some<|.builtin "type.__init__"):=by rw[typeLookup_type,builtinLookup_eq_fast];kernel_rfl
theorem tU:Slot "type" "__init__" "type.__init__":=
 .of (owner:="type") (n:="__init__") (by rw[typeLookup_type,builtinLookup_eq_fast];kernel_rfl) (by decide+kernel) (by decide+kernel) (by decide+kernel)
  (by first|exact .inl (by decide+kernel)|exact .inr<|by decide+kernel) (by rw[isSubtype_type];kernel_rfl)
theorem Ck(o a b c:Value):argsOk "type.__init__" ⟨[o,a,b,c],[]⟩:=by unfold argsOk;kernel_rfl
set_option maxHeartbeats 8000000 in
theorem Hg{name:Str}{c:Addr}{Q:Value->Shared->Prop}{R:Addr->Shared->Prop}
 (h:∀(A':Around) (d:Fin->Shared->Prop) (i:Value->Shared->Prop),(∀a s',R a s'->d (.done<|.ret<|.ref a) s')->wpAny (model prog w) A' (Builtin.«type.__new__» ⟨[.type "type",.str name t,.ref eu,.ref c],[]⟩) d i s)
 (f:∀a s',R a s'->s'.TypeIs (.ref a) "type") (g:∀a s',R a s'->Q (.ref a) s'):
 wpAny (model prog w) A (call (.type "type") [.str name t,.ref eu,.ref c]) Q E s:=by
 refine wpAny_call<|codeAny_of_tree ?_
 refine ψ<|show _/\_ from⟨Code.quiet_builtin _ (by decide+kernel),codeAny_builtin Ag ?_⟩
 refine υ<|wP<|wP<|wpAny_onRaise<|ψ<|wP<|υ<|wpAny_of_eq zN<|wP<|υ<|wpAny_holding ?_
 refine wpAny_call<|codeAny_of_tree ?_
 refine υ<|wP<|υ<|wP<|ψ<|υ<|wP<|υ<|υ<|υ<|wpAny_of_eq zN<|ψ<|ψ<|ψ<|υ<|wpAny_of_eq zN<|wP<|wP<|wpAny_onRaise<|ψ<|ψ ?_
 refine⟨Code.quiet_builtin _ (by decide+kernel),codeAny_builtin C2 ?_⟩
 refine h _ _ _ λa s' r=>?_
 have b:=f _ _ r
 have e:=g _ _ r
 refine υ<|wpAny_isInstance b Th ?_
 refine cV (by decide)<|υ<|wpAny_holding<|υ<|wpAny_specialOf b N7 ?_
 refine wpAny_holding<|υ<|wpAny_of_eq (tU.bind _) ?_
 refine cY<|υ<|wpAny_call_entry tU b Ah ?_<|Ck _ _ _ _
 refine ψ ⟨_,rfl,?_⟩
 refine ψ<|ψ ?_
 exact e
theorem Nt{qual:Str}{m cJ:Str->Option Value}{nm:Value}
 (b:scope.kind=.class) (o:scope.names.lookup ("__name__":Str)=none) (d:dQ s.heap N m P) (l:m "__name__"=none) (k:s.heap.Ns mainGlobals cJ) (i:cJ "__name__"=some nm) (h:Q nm s):
 wpAny M A (loadName (ft qual scope N c F) "__name__") Q E s:=by
 have e:(ft qual scope N c F).scope.kind.isAnnotationScope=false:=by show scope.kind.isAnnotationScope=false;rw[b];rfl
 have g:(ft qual scope N c F).blockKind=.class:=by unfold Env.blockKind;rw[e];exact b
 have j:(ft qual scope N c F).kindOf "__name__"=none:=o
 unfold loadName
 rw[e,g,j]
 rw[if_neg<|by simp]
 dsimp only
 rw[if_neg<|by decide]
 obtain⟨es,n,f,_⟩:=id d
 refine υ<|fN f ?_
 rw[if_pos<|by exact beq_self_eq_true<|Value.type "dict"]
 refine lD d l<|cY ?_
 refine υ<|wpAny_nsGet k ?_
 rw[i]
 exact ψ h
theorem kj{x:Str}:∀{ds:List bx} {b:List Addr} {m:Str->Option Value},(∀d∈ds,d.name≠x)->df ds b m x=m x
 |[],_,_,_=>rfl
 |_::_,[],_,_=>rfl
 |d::ds,f::b,m,h=>by show df ds b _ x=_;rw[kj λc g=>h c<|.tail _ g];exact if_neg λe=>h d (.head _) e.symm
noncomputable def ia:List Str:=["__slots__","__module__","__qualname__","__firstlineno__","__static_attributes__","__doc__","__new__","__init_subclass__","__class_getitem__","__classcell__","__classdictcell__","__del__","__dict__","__weakref__","__eq__"]
theorem N4{X:Addr->Prop}{name:Str}(x:FnAt X h f name qual params body scope):e6 h f:=by obtain⟨_,_,_,_,_,b,_⟩:=x;exact⟨_,_,.inl rfl,b,rfl,λy q=>nomatch q⟩
theorem oD{x:Str}:∀{ds:List bx} {b:List Addr} {m m':Str->Option Value},m x=m' x->df ds b m x=df ds b m' x
 |[],_,_,_,h=>h
 |_::_,[],_,_,h=>h
 |d::ds,f::b,m,m',h=>by
  show df ds b _ x=df ds b _ x;refine oD ?_;by_cases e:x=d.name
  ·rw[if_pos e,if_pos e]
  ·rw[if_neg e,if_neg e];exact h
theorem Ea{c:List Value} (h:∀T κ,(∀b o,s.heap.get? b=some o->κ.get? b=some o)->κ.get? T=some {cls:=.type "tuple",data:=.seq c.toArray}->s.heap.objs.size=T->κ.objs.size=T+1->Q (.ref T) {s with heap:=κ}):wpAny M A (newTextTuple c) Q E s:=wpAny_newTextTuple<|h _ _ (λx x e=>get?_push_of_some _ e) (get?_push_size _ rfl) rfl<|Heap.size_push ..
theorem Eb{Q:List Value->Shared->Prop}:∀(l:List Str) (acc:List Value) (s:Shared),(∀vs tk,Q vs {s with toks:=tk})->wpAny M A (List.mapM.loop mkText l acc) Q E s:=by
 intro c
 induction c with
 |nil=>exactλacc s h=>ψ<|h _ s.toks
 |cons x l b=>intro acc s h;exact υ<|wpAny_mkText<|b _ _ λvs tk=>h vs tk
variable {h0:Heap}{g:Array GenState}{dr:Drawn}{tk:Nat}{os:OsState}
set_option genCtorIdx false in
inductive dz|obj|exc|sub(B oK:Addr)(pN Au:Str)(sg p8:Tok)(subs:List Value)
noncomputable def dz.given:dz->List Value|.obj=>[]|.exc=>[.type "Exception"]|.sub B ..=>[.ref B]
noncomputable def dz.bases:dz->List Value|.obj=>[.type "object"]|.exc=>[.type "Exception"]|.sub B ..=>[.ref B]
noncomputable def dz.rest:dz->List Value|.obj=>[.type "object"]|.exc=>[.type "Exception",.type "BaseException",.type "object"]|.sub B ..=>[.ref B,.type "object"]
noncomputable def dz.mk:dz->String|.exc=>"Exception.__new__"|_=>"object.__new__"
noncomputable def dz.ed(eu:Addr):dz->Option Value|.obj=>none|_=>some<|.ref eu
noncomputable def dz.ext:dz->Value|.obj=>.type "object"|.exc=>.type "Exception"|.sub B ..=>.ref B
noncomputable def dz.dict:dz->Bool|.obj=>true|_=>false
noncomputable def dz.weak:dz->Bool|.sub ..=>false|_=>true
noncomputable def dz.du(eu:Addr):dz->Array (Option Value)|.obj=>#[]|_=>#[some<|.ref eu]
noncomputable def dz.XG:dz->Bool|.sub ..=>true|_=>false
noncomputable def dz.X:dz->Addr->Prop|.obj,_=>False|.exc,b=>b=cStatics|.sub B ..,b=>b=B
abbrev dz.cd(k:dz)(name qn:Str)(a ns:Addr):ClassData:={name:=name,bases:=k.bases,mro:=.ref a::k.rest,ns:=ns,qualname:=qn}
def dz.mP(k:dz)(eu:Addr)(name:Str)(t:Tok)(qn:Str)(tq:Tok):Array<|Option Value:=#[k.ed eu,none,some<|.str name t,some<|.str qn tq]
def dz.O1(k:dz)(eu:Addr)(name:Str)(t:Tok)(qn:Str)(tq:Tok):Array<|Option Value:=#[k.ed eu,none,some<|.str name t,some<|.str qn tq,some<|.builtin k.mk]
def dz.TU(k:dz)(eu:Addr)(name:Str)(t:Tok)(qn:Str)(tq:Tok):Array<|Option Value:=#[k.ed eu,none,some<|.str name t,some<|.str qn tq,some<|.builtin k.mk,some<|.bool true]
def dz.oL(k:dz)(name qn:Str)(ns:Addr):ClassData:={name:=name,bases:=k.bases,mro:=[],ns:=ns,qualname:=qn}
def dz.Pre(h:Heap)(ms:Str->Option Value):dz->Prop
 |.obj=>True
 |.exc=>∀y,ms y=none
 |.sub B oK pN Au sg p8 subs=>ms (Builtin.mroTurnedKey B)=none/\h.get? B=some (gy pN Au sg p8 [.type "object"] [.ref B,.type "object"] oK "object.__new__" none subs)/\(∃b c,dQ h oK b c/\b "__del__"=none/\b "__new__"=none/\b "__init_subclass__"=none)/\subs.length<=900
def dz.bM(a:Addr)(h:Heap):dz->Prop
 |.obj=>True
 |.exc=>∃ms,h.Ns cStatics ms/\∀x,jI x=false->ms x=none
 |.sub B oK pN Au sg p8 subs=>h.get? B=some (gy pN Au sg p8 [.type "object"] [.ref B,.type "object"] oK "object.__new__" none<|subs++[.ref a])
theorem iS{f:β->σ->Sem (ForInStep σ)}{x:β}{b:σ}{Q:σ->Shared->Prop}(h:wpAny M A (f x b) (λr s'=>Q (match r with|.yield c=>c|.done c=>c) s') E s):wpAny M A (forIn [x] b f) Q E s:=by rw[forIn_cons];refine υ<|wpAny_mono h (λr s' q=>?_) λy y x=>x;cases r<;>exact ψ q
theorem abH{c:Prop}[Decidable c]{x:Sem Unit}{j:Unit->Sem α}{Q:α->Shared->Prop}(h:wpAny M A (if c then x else pure ()) (λu s'=>wpAny M A (j u) Q E s') E s):wpAny M A (if c then x>>=λr=>j r else j ()) Q E s:=by
 by_cases b:c
 ·rw[if_pos b]at h⊢;exact υ h
 ·rw[if_neg b]at h⊢;exact υ h
theorem dz.Pre.keep{k:dz}(x:k.Pre h ms)(c:∀b o,h.get? b=some o->κ.get? b=some o):k.Pre κ ms:=by
 cases k with
 |obj=>exact x
 |exc=>exact x
 |sub=>exact⟨x.1,c _ _ x.2.1,x.2.2.1.elim λm d=>d.elim λP f=>f.elim λn r=>⟨m,P,n.keep λo e=>c _ _ e,r⟩,x.2.2.2⟩
theorem Rj{hb l:Type}{c:Prop}[Decidable c]{x:Sem β}{p:β->Bool}{g:Sem hb}{i:hb->Sem l}{k:l->Sem Unit}{j:Unit->Sem α}{Q:α->Shared->Prop}
 (h:wpAny M A (if c then(x>>=λr=>if p r=true then g>>=λd=>i d>>=λf=>k f else pure ())else pure ()) (λu s'=>wpAny M A (j u) Q E s') E s):
 wpAny M A (if c then(x>>=λr=>if p r=true then g>>=λd=>i d>>=λf=>k f>>=λu=>j u else j ())else j ()) Q E s:=by
 have e:(if c then(x>>=λr=>if p r=true then g>>=λd=>i d>>=λf=>k f>>=λu=>j u else j ())else j ())=
  ((if c then(x>>=λr=>if p r=true then g>>=λd=>i d>>=λf=>k f else pure ())else pure ())>>=j):=by
  by_cases b:c
  ·rw[if_pos b,if_pos b,bind_assoc];congr;funext r;cases p r
   ·exact(pure_bind _ _).symm
   ·simp only[if_true,bind_assoc]
  ·rw[if_neg b,if_neg b,pure_bind]
 exact e▸(υ h)
theorem xR{x:Sem α}{Q:α->Shared->Prop}(v:α)(h:∀b:α->Shared->Prop,b v s->wpAny M A x b E s)(q:Q v s):wpAny M A x Q E s:=h Q q
@[elab_as_elim] theorem zF{P:Sem β->Prop}(ae1:Sem β)(R:Sem β->Prop)(c:R ae1)(b:∀K,R K->P K):P ae1:=b ae1 c
theorem nb{b:Bool}(h:b=true):¬(!b)=true:=by rw[h];decide
theorem d0{b:Bool}(h:b=false):¬b=true:=by rw[h];decide
theorem dz.VN{k:dz}(d:h.Ns cStatics ms)(c:k.Pre h ms)(b:Addr)(x:k.X b):∃o,h.get? b=some o:=by
 cases k with
 |obj=>exact x.elim
 |exc=>exact d.elim λo z=>⟨o,(x)▸z.elim λy z=>z.elim λy z=>z.1⟩
 |sub B=>exact⟨_,(x)▸c.2.1⟩
theorem dz.NP(k:dz):k.rest.contains (.type "object")=true:=by
 cases k with
 |obj=>rfl
 |exc=>rfl
 |sub B=>exact List.contains_iff_mem.mpr<|.tail _<|.head _
theorem dz.bM.keep{k:dz}(x:k.bM a h)(c:∀b o,h.get? b=some o->κ.get? b=some o):k.bM a κ:=by
 cases k with
 |obj=>trivial
 |exc=>exact x.elim λms q=>⟨ms,q.1.at λo e=>c _ _ e,q.2⟩
 |sub=>exact c _ _ x
theorem MD(h:a≠b):(Value.ref a !=Value.ref b)=true:=bne_iff_ne.mpr λe=>h<|Value.ref.inj e
set_option tactic.hygienic true in
theorem k_sub{k:dz}{p:Heap}(z:k.Pre h0 ms)(J:∀b o,¬k.X b->h0.get? b=some o->p.get? b=some o)(I:k.bM a p):
 ∃v,Frag.In v p/\alongIn v "__init_subclass__" k.rest=some (some<|.builtin "object.__init_subclass__"):=by
 refine Θ λr=>?_
 cases k with
 |obj=>exact r ⟨[],tr _,by kernel_rfl⟩
 |exc=>exact r ⟨[],tr _,by kernel_rfl⟩
 |sub B d G w H F c=>
  obtain⟨_,A,⟨L,K,u,_,_,i⟩,_⟩:=z;have s:d≠B:=by obtain⟨_,_,g,_⟩:=u;rintro rfl;replace g:=A▸g;cases congrArg Obj.data (Φ g)
  obtain⟨f,m,l,x,j,y⟩:=u.keep λo e=>J _ _ s e;refine r ⟨[(B,gy G w H F [.type "object"] [.ref B,.type "object"] d "object.__new__" none<|c++[.ref a]),(d,dictOf f m)],?_,?_⟩
  ·intro b o e;simp only[List.lookup]at e;split at e
   ·rename_i q;cases e;rw[beq_iff_eq.mp q];exact I
   ·split at e
    ·rename_i q;cases e;rw[beq_iff_eq.mp q];exact l
    ·exact cR e
  ·have C:f.find? (λe=>e.key.isStr "__init_subclass__")=none:=by have:=j "__init_subclass__";rw[i]at this;simpa using this
   have D:f.any (·.refKey)=false:=by rw[List.any_eq_false];intro e E;obtain⟨n,t,h⟩:=x e E;simp[DictEntry.refKey,h]
   simp only[dz.rest,alongIn,ownIn,List.lookup,beq_self_eq_true,nsIn,(by rw[beq_eq_false_iff_ne];exact s:(d==B)=false),C,D,Bool.false_eq_true,if_false];kernel_rfl
theorem Yr{k:dz}{f:Heap}(d:h0.Ns cStatics ms)(h:ms "thirdparty.any"=none)(l:k.Pre h0 ms)(i:∀b o,¬k.X b->h0.get? b=some o->f.get? b=some o)(n:k.bM a f):
 ∃c,f.Ns cStatics c/\c "thirdparty.any"=none:=by
 cases k with
 |obj=>exact⟨ms,d.at λo e=>i _ _ id e,h⟩
 |exc=>obtain⟨c,j,q⟩:=n;exact⟨c,j,q _<|by rfl⟩
 |sub B=>refine⟨ms,d.at λo e=>i _ _ ?_ e,h⟩;intro x;obtain⟨o,_,_,g,m,_⟩:=d;rw[x,l.2.1]at g;cases g;cases m
structure iB(h0:Heap)(X:Addr->Prop)(a ns:Addr)(cd:ClassData)(du:Array<|Option Value)(m:Str->Option Value)(S:List Addr)(h:Heap):Prop where
 f:∀b o,h0.get? b=some o->b≠a/\b≠ns
 o:h.get? a=some ⟨.type "type",none,.cls cd,du⟩
 n:dQ h ns m<|gR S
 k:∀b o,h0.get? b=some o->h.get? b=some o
 t:∀b∈S,e6 h b
 y:∀b∈S,¬X b
 x:∀b,X b->∃o,h0.get? b=some o
inductive Xv(h0:Heap)(X:Addr->Prop)(a ns:Addr)(cd:ClassData)(du:Array<|Option Value)(P:(Str->Option Value)->Prop)(h:Heap):Prop
 |mk (S m:_):iB h0 X a ns cd du m S h->P m->Xv h0 X a ns cd du P h
section
variable {X:Addr->Prop}{ns:Addr}{cd xM:ClassData}{du p5:Array<|Option Value}{m':Str->Option Value}
theorem iB.na(u:iB h0 X a ns cd du m S h):a≠ns:=λe=>by subst e;obtain⟨_,_,c,_⟩:=u.n;cases congrArg Obj.data (Φ<|u.o.symm.trans c)
theorem e6.e1{es:List DictEntry}{n:Nat}(t:e6 h b)(d:h.get? b=some (dictOf es n)):False:=by
 obtain⟨T,o,f,e,c,_⟩:=t
 obtain rfl:=Φ<|e.symm.trans d
 obtain rfl:"dict"=T:=Value.type.inj c
 revert f
 decide
theorem iB.same(u:iB h0 X a ns cd du m S h)(e:κ.get? a=some ⟨.type "type",none,.cls xM,p5⟩)(b:SameBut a h κ):iB h0 X a ns xM p5 m S κ:=
 ⟨u.f,e,u.n.keep λw x=>(b.2 _ u.na.symm).trans x,λw o x=>(b.2 _ (u.f _ _ x).1).trans<|u.k _ o x,λc i=>(u.t c i).keep λw x=>(b.2 _ λz=>by obtain⟨_,_,_,e,_,q⟩:=u.t c i;exact q _<|congrArg Obj.data<|Φ<|e.symm.trans<|z▸u.o).trans x,u.y,u.x⟩
theorem iB.Sj(u:iB h0 X a ns cd du m S h)(n:dQ κ ns m'<|gR S)(b:SameBut ns h κ):iB h0 X a ns cd du m' S κ:=
 ⟨u.f,(b.2 _ u.na).trans u.o,n,λq o x=>(b.2 _ (u.f _ _ x).2).trans<|u.k _ o x,λc i=>(u.t c i).keep λq x=>(b.2 _ λz=>by obtain⟨_,_,d,_⟩:=u.n;exact(u.t c i).e1<|z▸d).trans x,u.y,u.x⟩
theorem iB.new{d:Addr}(u:iB h0 X a ns cd du m S h)(k:∀b o,h.get? b=some o->κ.get? b=some o)(e:h.objs.size=d)(t:e6 κ d):iB h0 X a ns cd du m (d::S) κ:=⟨u.f,k _ _ u.o,(u.n.keep λw=>k _ _).mono λw x=>x.mono λw h=>.tail _ h,λw o x=>k _ _<|u.k _ o x,λc i=>(ae6 i).elim (λe=>e▸t) λi=>(u.t c i).keep λw=>k _ _,λc i=>(ae6 i).elim (λz x=>Exists.elim (u.x c x) λw q=>Nat.lt_irrefl _<|Nat.lt_of_lt_of_eq (z▸lt_size (u.k _ _ q)) e)<|u.y c,u.x⟩
theorem qF{v:Option Value}{Q:Unit->Shared->Prop}(p5:Array<|Option Value)(u:iB h0 X a ns cd du m S h)(c:i<100)(q:∀κ,iB h0 X a ns cd p5 m S κ->Q () ⟨κ,g,dr,tk,os⟩)(e:(du++Array.replicate (i+1-du.size) none).setIfInBounds i v=p5):wpAny M A (setSlotAt a i v) Q E ⟨h,g,dr,tk,os⟩:=J4 p5 u.o c (λκ g b=>q κ<|u.same g b) e
theorem Ed{f:ClassData->ClassData}{Q:Unit->Shared->Prop}(xM:ClassData)(u:iB h0 X a ns cd du m S h)(c:xM.subclasses=[])(d:xM.slotNames=[])
 (q:∀κ,iB h0 X a ns xM du m S κ->Q () ⟨κ,g,dr,tk,os⟩) (e:f cd=xM):wpAny M A (updateCls a f) Q E ⟨h,g,dr,tk,os⟩:=
 B2 u.o (by rw[e,c];exact zero_le _) (by rw[e,d];exact zero_le _) (λκ g b=>q κ<|u.same (e▸g) b)
theorem Zm{Q:Bool->Shared->Prop}(u:iB h0 X a ns cd du m S h)(q:∀b κ v,iB h0 X a ns cd du (λy=>if y=x then v else m y) S κ->Q b ⟨κ,g,dr,tk,os⟩):wpAny M A (nsDel ns x) Q E ⟨h,g,dr,tk,os⟩:=Sf u.n λb κ v n k=>q b κ v<|u.Sj n k
theorem km{r:Option Value}{Q:Option Value->Shared->Prop}(u:iB h0 X a ns cd du m S h)(e:m x=r)(q:Q r ⟨h,g,dr,tk,os⟩):wpAny M A (nsGet ns x) Q E ⟨h,g,dr,tk,os⟩:=lD u.n e q
theorem Kj{Q:Unit->Shared->Prop}(u:iB h0 X a ns cd du m S h)(c:gR S v)(q:∀κ,iB h0 X a ns cd du (λy=>if y=x then some v else m y) S κ->Q () ⟨κ,g,dr,tk+1,os⟩):wpAny M A (nsSet ns x v) Q E ⟨h,g,dr,tk,os⟩:=Sg u.n c λκ n b=>q κ<|u.Sj n b
end
section
variable {k:dz}
theorem Jh{Q:Unit->Shared->Prop}(c:h.Ns cStatics ms)(b:k.Pre h ms)(q:Q () ⟨h,g,dr,tk,os⟩):wpAny M A (Builtin.notOverATurnedClass k.bases) Q E ⟨h,g,dr,tk,os⟩:=by
 cases k with
 |obj=>exact wpAny_of_eq H3 q
 |exc=>exact wpAny_of_eq IC q
 |sub=>refine(?_:wpAny M A (Builtin.notOverATurnedClass [.ref _]) _ _ _);refine υ<|υ<|υ<|i0 b.2.1<|ψ<|υ<|υ<|fN b.2.1<|ψ<|ψ<|υ<|υ<|υ ?_;refine wpAny_nsGet c ?_;rw[b.1];refine ψ<|υ<|υ ?_;refine wpAny_nsGet c ?_;rw[b.1];refine ψ<|wP<|ψ<|ψ<|ψ<|ψ ?_;exact q
theorem UN(c:h.Ns cStatics ms)(d:ms "thirdparty.any"=none)(b:k.Pre h ms)(q:Q k.ext ⟨h,g,dr,tk,os⟩):wpAny M A (Builtin.extendedBase k.bases) Q E ⟨h,g,dr,tk,os⟩:=by
 cases k with
 |obj=>exact wpAny_of_eq T2 q
 |exc=>exact wpAny_of_eq Ud q
 |sub=>refine(?_:wpAny M A (Builtin.extendedBase [.ref _]) _ _ _);refine υ<|υ<|υ<|i0 b.2.1<|ψ<|υ<|υ<|υ ?_;refine wpAny_nsGet c ?_;rw[d];refine ψ<|ψ<|υ<|υ<|υ<|fN b.2.1<|ψ<|ψ<|υ<|υ<|υ<|υ<|fN b.2.1<|ψ<|υ<|υ<|υ<|wP<|υ<|wP<|ψ<|ψ<|ψ<|ψ<|ψ<|ψ<|υ<|wP<|ψ<|ψ<|ψ<|υ<|wP<|ψ<|ψ<|ψ<|υ<|υ<|υ<|υ<|υ<|fN b.2.1<|ψ<|ψ<|υ<|υ<|υ<|υ<|fN b.2.1<|ψ<|υ<|υ<|υ<|wP<|υ<|wP<|ψ<|ψ<|ψ<|ψ<|ψ<|ψ<|υ<|wP<|ψ<|ψ<|ψ<|ψ<|ψ<|ψ ?_;exact q
theorem Rx{name:Str}{Q:_->Shared->Prop}(c:es.find? (λe=>e.key.isStr "__slots__")=none)(b:k.Pre h ms)(q:Q {inherited:=[],dict:=k.dict,weak:=k.weak} ⟨h,g,dr,tk,os⟩):wpAny M A (Builtin.Slots.read name k.bases es) Q E ⟨h,g,dr,tk,os⟩:=by
 cases k with
 |obj=>exact wpAny_of_eq (read0 c) q
 |exc=>exact wpAny_of_eq (PO c) q
 |sub=>refine(?_:wpAny M A (bind (Builtin.Slots.bestBase [.ref _]) _) _ _ _);refine υ<|υ<|υ<|υ<|υ<|υ<|fN b.2.1<|ψ<|ψ<|υ<|υ<|υ<|υ<|fN b.2.1<|ψ<|υ<|υ<|υ<|wP<|υ<|wP<|ψ<|ψ<|ψ<|ψ<|ψ<|ψ<|υ<|wP<|ψ<|ψ<|ψ<|ψ<|ψ<|ψ<|υ<|υ<|fN b.2.1<|ψ<|ψ<|υ<|υ<|fN b.2.1<|ψ<|ψ<|υ<|υ<|i0 b.2.1<|ψ<|ψ<|υ<|υ<|υ<|fN b.2.1<|ψ<|ψ<|ψ ?_;rw[c];exact ψ q
theorem UO{Q:_->Shared->Prop}(c:k.Pre h ms)(q:Q k.rest ⟨h,g,dr,tk,os⟩):wpAny M A (Builtin.linearize k.bases mroOf) Q E ⟨h,g,dr,tk,os⟩:=by
 cases k with
 |obj=>exact wpAny_of_eq T3 q
 |exc=>exact wpAny_of_eq Ue q
 |sub B=>refine(?_:wpAny M A (Builtin.linearize [Value.ref B] mroOf) _ _ _);refine υ<|υ<|υ<|fN c.2.1<|ψ<|ψ<|ψ<|υ<|wP<|ψ ?_;rw[show List.find? (λb=>decide (List.count b [Value.ref B]>1)) [Value.ref B]=none by simp];dsimp only;rw[Pj];exact ψ q
theorem k_made{Q:_->Shared->Prop}(b:k.Pre h ms)(q:Q (some k.mk) ⟨h,g,dr,tk,os⟩):wpAny M A (Bind.madeBy k.ext) Q E ⟨h,g,dr,tk,os⟩:=by
 cases k with
 |obj=>exact wpAny_of_eq Pp q
 |exc=>exact wpAny_of_eq PN q
 |sub B=>refine(?_:wpAny M A (Bind.madeBy<|.ref B) _ _ _);refine υ<|υ<|fN b.2.1<|ψ<|ψ<|υ<|υ<|υ<|i0 b.2.1<|ψ<|ψ<|ψ<|ψ ?_;exact q
theorem Ry{Q:_->Shared->Prop}(b:k.Pre h ms)(q:Q k.XG ⟨h,g,dr,tk,os⟩):wpAny M A (Builtin.Slots.givesWeak k.ext) Q E ⟨h,g,dr,tk,os⟩:=by
 cases k with
 |obj=>exact wpAny_of_eq ES q
 |exc=>exact wpAny_of_eq E8 q
 |sub B=>refine(?_:wpAny M A (Builtin.Slots.givesWeak<|.ref B) _ _ _);refine υ<|i0 b.2.1<|ψ<|ψ ?_;exact q
section
variable {X:Addr->Prop}{ns:Addr}{name qn:Str}{tq:Tok}
theorem F2{Q:_->Shared->Prop}(j:k.Pre h ms)(u:iB h0 X a ns (k.cd name qn a ns) (k.O1 eu name t qn tq) m S h)(f:m "__new__"=none)
 (q:Q () ⟨h,g,dr,tk,os⟩):wpAny M A (Bind.refreshMaker a) Q E ⟨h,g,dr,tk,os⟩:=by
 have b:=u.o
 refine Θ λe=>?_
 cases k with
 |obj=>refine e<|υ<|i0 b<|ψ<|υ<|υ<|υ<|fN b<|ψ<|ψ<|υ<|υ<|υ<|υ<|fN b<|ψ ?_;refine km u f<|ψ<|υ<|wP<|ψ<|ψ<|ψ ?_;exact cV (by decide+kernel)<|ψ q
 |exc=>refine e<|υ<|i0 b<|ψ<|υ<|υ<|υ<|fN b<|ψ<|ψ<|υ<|υ<|υ<|υ<|fN b<|ψ ?_;refine km u f<|ψ<|υ<|wP<|ψ<|ψ<|ψ ?_;exact cV (by decide+kernel)<|ψ q
 |sub B n=>obtain⟨_,c,⟨o,l,i,_,d,_⟩,_⟩:=j;refine e<|υ<|i0 b<|ψ<|υ<|υ<|υ<|fN b<|ψ<|ψ<|υ<|υ<|υ<|υ<|fN b<|ψ ?_;refine km u f<|ψ<|υ<|υ<|υ<|fN c<|ψ ?_;refine lD i d<|ψ<|υ<|wP<|ψ<|ψ<|ψ ?_;exact cV (by decide+kernel)<|ψ q
theorem F1{Q:_->Shared->Prop}(b:k.Pre h ms)(u:iB h0 X a ns (k.cd name qn a ns) (k.O1 eu name t qn tq) m S h)
 (q:∀κ,iB h0 X a ns (k.cd name qn a ns) (k.O1 eu name t qn tq) m S κ->Q () ⟨κ,g,dr,tk,os⟩):wpAny M A (Builtin.Slots.install (.ref a) ns k.bases {inherited:=[],dict:=k.dict,weak:=k.weak}) Q E ⟨h,g,dr,tk,os⟩:=by
 cases k with
 |obj=>refine wP<|υ<|υ<|wP<|ψ<|ψ ?_;exact Ed _ u rfl rfl q rfl
 |exc=>refine wP<|υ<|υ<|wP<|ψ<|ψ ?_;exact Ed _ u rfl rfl q rfl
 |sub B=>refine wP<|υ<|υ<|υ<|υ<|fN b.2.1<|ψ<|ψ<|ψ<|ψ ?_;exact Ed _ u rfl rfl q rfl
end
end
variable {k:dz}
inductive HB(M:Model)(A:Around)(E:Value->Shared->Prop)(h0:Heap)(g:Array GenState)(dr:Drawn)(tk:Nat)(os:OsState)(o:Obj)(x:Sem α)(v:Addr->α):Prop
 |mk (ns:Addr) (η:Heap):@Eq Nat h0.objs.size ns->@Eq Nat η.objs.size (h0.objs.size+1)->(∀b o,h0.get? b=some o->η.get? b=some o)->η.get? ns=some o->(∀{Q:α->Shared->Prop},Q (v ns) ⟨η,g,dr,tk,os⟩->wpAny M A x Q E ⟨h0,g,dr,tk,os⟩)->HB M A E h0 g dr tk os o x v
theorem NF(b:es.size<=sizeLine+1):HB (model prog w) A E h0 g dr tk os {cls:=.type "dict",data:=.dict es} (PySem.newObj (.type "dict")<|.dict es) Value.ref:=⟨_,_,rfl,Heap.size_push ..,λx x e=>get?_push_of_some _ e,get?_push_size _ rfl,λq=>wpAny_newObj_type q b⟩
theorem ND(b:o.isFreed=false):HB M A E h0 g dr tk os o (alloc o) λa=>a:=⟨_,_,rfl,Heap.size_push ..,λx x e=>get?_push_of_some _ e,get?_push_size _ b,λq=>wpAny_alloc q⟩
theorem dz.c5(k:dz):¬k.given.toArray.size>2^20:=by cases k<;>first|exact(by decide:¬0>2^20)|exact(by decide:¬1>2^20)
theorem XN{s:Shared}{x:Sem α}{Q:α->Shared->Prop}(v:α)(P:Heap->Prop)(h:∀b:α->Shared->Prop,(∀κ,P κ->b v ⟨κ,g,dr,tk,os⟩)->wpAny M A x b E s)(q:∀κ,P κ->Q v ⟨κ,g,dr,tk,os⟩):wpAny M A x Q E s:=h Q q
theorem Ig{s:Shared}{x:Sem α}{Q:α->Shared->Prop}(v:α)(P:Heap->Prop)(h:∀b:α->Shared->Prop,(∀κ tk,P κ->b v ⟨κ,g,dr,tk,os⟩)->wpAny M A x b E s)(q:∀κ tk,P κ->Q v ⟨κ,g,dr,tk,os⟩):wpAny M A x Q E s:=h Q q
set_option maxHeartbeats 8000000 in
theorem newObj{name qn:Str}{tq:Tok}{X:Addr}{Q:Fin->Shared->Prop}
 (P:h0.get? eu=some {cls:=.type "tuple",data:=.seq k.given.toArray}) (eI:dQ h0 X m<|gR S) (aj:(X==sysModules)=false)
 (WS:m "__slots__"=none) (WR:(m "__module__").isSome=true) (Dm:(name.cps.any λc=>0xD800<=c&&c<=0xDFFF)=false) (FJ:name.cps.contains 0=false)
 (Yw:m "__qualname__"=some (.str qn tq)) (RQ:m "__doc__"=none) (Jy:m "__new__"=none) (WQ:m "__init_subclass__"=none) (WN:m "__class_getitem__"=none)
 (WL:m "__classcell__"=none) (WM:m "__classdictcell__"=none) (RP:m "__del__"=none) (WO:m "__dict__"=none) (WT:m "__weakref__"=none) (abW:m "__eq__"=none)
 (G:h0.Ns cStatics ms) (pG:ms "thirdparty.any"=none) (j:k.Pre h0 ms) (L:∀b∈S,¬k.X b)
 (gH:∀b∈S,e6 h0 b) (V:∀es n,h0.get? X=some (dictOf es n)->es.length<=1000)
 (F:∀a ns κ tk m' dW,κ.get? a=some (gy name qn t tq k.bases (.ref a::k.rest) ns k.mk (k.ed eu) [])->dQ κ ns m' (gR dW)->(∀x,qv.contains x=false->m' x=m x)->(∀b∈dW,e6 κ b)->(∀b o,¬k.X b->h0.get? b=some o->κ.get? b=some o)->k.bM a κ->h0.objs.size<=ns->ns<a->a<κ.objs.size->Q (.done<|.ret<|.ref a) ⟨κ,g,dr,tk,os⟩):wpAny (model prog w) A (Builtin.«type.__new__» ⟨[.type "type",.str name t,.ref eu,.ref X],[]⟩) Q E ⟨h0,g,dr,tk,os⟩:=by
 obtain⟨es,n,T,ak,hm,uA⟩:=id eI
 have ο:=V _ _ T
 have Bn:(⟨h0,g,dr,tk,os⟩:Shared).TypeIs (.ref X) "dict":=⟨_,T,rfl⟩
 have Bx:es.toArray.find? (λe=>e.key.isStr "__slots__")=none:=by have:=hm "__slots__";rw[WS]at this;simpa using this
 have Wq:es.toArray.any (λe=>e.key.isStr "__module__")=true:=by rw[vo hm];exact WR
 have Lh:es.toArray.any (λe=>e.key.isStr "__del__")=false:=by rw[vo hm,RP];rfl
 have rV:es.toArray.any (·.refKey)=false:=by rw[any_toArray,List.any_eq_false];intro e O;obtain⟨n,t,h⟩:=ak e O;simp[DictEntry.refKey,h]
 obtain⟨ns,η,Γ,ih,Ep,TM,OS⟩:=NF (prog:=prog) (w:=w) (A:=A) (E:=E) (h0:=h0) (g:=g) (dr:=dr) (tk:=tk) (os:=os) (es:=es.toArray) (by rw[sizeLine_eq,List.size_toArray];omega)
 obtain⟨a,f,ab,_,rG,mN,adi⟩:=ND (M:=model prog w) (A:=A) (E:=E) (h0:=η) (g:=g) (dr:=dr) (tk:=tk) (os:=os) (o:=⟨.type "type",none,.cls {name:=name,bases:=k.bases,mro:=[],ns:=ns,qualname:=qn},#[]⟩) rfl
 have ab:=(congrArg Nat.succ Γ).symm.trans<|ih.symm.trans ab
 have TP:dQ η ns m<|gR S:=⟨es,_,TM,ak,hm,uA⟩
 have dt:∀b o,h0.get? b=some o->@LT.lt Nat _ b ns:=λb o e=>Nat.lt_of_lt_of_eq (lt_size e) Γ
 have U:iB h0 k.X a ns _ _ m S f:=⟨λb o e=>⟨ne_of_lt<|Nat.lt_trans (dt b o e)<|Nat.lt_of_lt_of_eq (lt_succ_self _) ab,ne_of_lt<|dt b o e⟩,mN,TP.keep λo=>rG _ o,λb o e=>rG _ _<|Ep _ _ e,λb i=>(gH b i).keep λo e=>rG _ _<|Ep _ _ e,L,dz.VN G j⟩
 refine wP<|υ<|υ<|i0 P<|ψ<|wpAny_of_eq Ab<|υ<|υ<|i0 T<|ψ<|wpAny_of_eq CD<|υ<|fN P<|ψ ?_
 refine cV k.c5 ?_
 refine υ ?_
 refine xR PUnit.unit (λD d=>?_) ?_
 ·clear F P L U gH G;cases k with
  |obj=>exact ψ d
  |exc=>refine iS ?_;refine wP<|ψ ?_;exact d
  |sub=>obtain⟨_,Y,_⟩:=j;refine iS ?_;refine υ<|i0 Y<|ψ<|ψ ?_;exact d
 refine υ ?_
 refine xR (.type "type") (λD d=>?_) ?_
 ·clear F P L U gH G;cases k with
  |obj=>exact ψ d
  |exc=>refine iS ?_;refine wP<|υ<|wP<|ψ<|ψ ?_;exact d
  |sub=>obtain⟨_,Y,_⟩:=j;refine iS ?_;refine υ<|i0 Y<|ψ<|υ<|wP<|ψ<|ψ ?_;exact d
 refine υ ?_
 rw[show(if((some k.given.toArray).getD #[]).toList.isEmpty=true then[Value.type "object"]else((some k.given.toArray).getD #[]).toList)=k.bases from k.casesOn rfl rfl λα α α α α α α=>rfl]
 refine Jh G j ?_
 refine υ ?_
 refine UN G pG j ?_
 refine cV (d0 aj) ?_
 refine υ ?_
 refine wpAny_dictEntries T rfl ?_
 refine υ ?_
 refine wpAny_specialOf Bn Po ?_
 refine hO (by simp) ?_
 refine wP<|υ<|wpAny_holding ?_
 refine Rx Bx j ?_
 refine υ ?_
 refine OS ?_
 refine cV (nb Wq) ?_
 refine υ ?_
 refine cV (d0 Dm) ?_
 refine ψ ?_
 refine cV (d0 FJ) ?_
 refine υ ?_
 refine lD TP Yw ?_
 refine υ ?_
 refine lD TP Yw ?_
 refine wP<|wP<|υ ?_
 refine lD TP RQ ?_
 refine υ ?_
 refine adi ?_
 refine abH<|XN (g:=g) (dr:=dr) (tk:=tk) (os:=os) () (λκ=>iB h0 k.X a ns (k.oL name qn ns) (k.du eu) m S κ) (λD d=>?_) λf U=>?_
 ·clear F;cases k with
  |obj=>exact ψ<|d _ U
  |exc=>exact hO rfl<|qF _ U (by decide) d rfl
  |sub=>exact hO rfl<|qF _ U (by decide) d rfl
 refine υ (qF #[k.ed eu,none,some<|.str name t] U (by decide) (λf U=>?_)<|by exact k.casesOn rfl rfl λα α α α α α α=>rfl)
 refine υ<|qF (k.mP eu name t qn tq) U (by decide) (λf U=>?_) rfl
 refine zF (Bind.bind (Builtin.mroHook? _) _) (λK=>∀f v,iB h0 k.X a ns (k.oL name qn ns) (k.mP eu name t qn tq) (λy=>if y="__qualname__"then v else m y) S f->wpAny (model prog w) A K Q E ⟨f,g,dr,tk,os⟩) ?_ λK l=>?_
 refine zF (Bind.bind (Bind.madeBy _) _) (λK=>∀f v,iB h0 k.X a ns (k.cd name qn a ns) (k.mP eu name t qn tq) (λy=>if y="__qualname__"then v else m y) S f->wpAny (model prog w) A K Q E ⟨f,g,dr,tk,os⟩) ?_ λK l=>?_
 refine zF (Bind.bind (Builtin.Slots.givesWeak _) _) (λK=>∀f v,iB h0 k.X a ns (k.cd name qn a ns) (k.O1 eu name t qn tq) (λy=>if y="__qualname__"then v else m y) S f->wpAny (model prog w) A K Q E ⟨f,g,dr,tk,os⟩) ?_ λK l=>?_
 refine zF (Bind.bind (nsGet ns "__doc__") _) (λK=>∀f tk dW m',iB h0 k.X a ns (k.cd name qn a ns) (k.TU eu name t qn tq) m' dW f->(∀x:Str,x≠"__weakref__"->x≠"__dict__"->x≠"__qualname__"->m' x=m x)->wpAny (model prog w) A K Q E ⟨f,g,dr,tk,os⟩) ?_ λK l=>?_
 refine zF (Bind.bind (tryCatch (holding [Value.ref a] _) _) _) (λK=>∀p tk (R:List Addr) (LN:Str->Option Value),(∀x:Str,x≠"__weakref__"->x≠"__dict__"->x≠"__qualname__"->LN x=m x)->p.get? a=some (gy name qn t tq k.bases (.ref a::k.rest) ns k.mk (k.ed eu) [])->dQ p ns (λy=>if y="__doc__"then some .none else LN y) (gR R)->(∀b∈R,e6 p b)->(∀b o,¬k.X b->h0.get? b=some o->p.get? b=some o)->k.bM a p->wpAny (model prog w) A K Q E ⟨p,g,dr,tk,os⟩) ?_ λK l=>?_
 ·intro p Zk R LN J H KA Qp vN Z;obtain⟨Xo,adj,al⟩:=k_sub j vN Z;obtain⟨adO,Zb,Zh⟩:=Yr G pG j vN Z;obtain⟨adx,aez,Q0,Yc,adF,Qn⟩:=id KA;refine υ<|wpAny_tryCatch<|wpAny_holding<|υ ?_;refine wpAny_dictEntries Q0 rfl ?_;refine υ ?_;refine x8 ?_ λe O D d=>?_
  ·refine υ ?_;refine wpAny_dictEntries Q0 rfl ?_;refine υ ?_;refine x8 ?_ λe O D d=>?_
   ·refine υ ?_;refine D9 (s:=_) H rfl λqZ aeh m3 u aeI=>?_;refine υ<|wpAny_holding ?_;refine D8 (s:=_) (adj.keeps u) al k.NP (Zb.at λo e=>u _ _ e) Zh (u _ _ H) rfl m3 λq aax ad0 Yk I aeJ=>?_;refine υ ?_;refine I8 (I _ _<|u _ _ H) Yk ?_;refine ψ<|ψ ?_;refine F a ns aax _ _ R (I _ _<|u _ _ H) (KA.keep λo e=>I _ _<|u _ _ e) (λx C=>?_) (λb a7=>(Qp b a7).keep λo e=>I _ _<|u _ _ e) (λb o q e=>I _ _<|u _ _<|vN _ _ q e) ?_ (Nat.le_of_eq Γ) ?_ ?_
    ·simp only[qv,contains_cons,contains_nil,Bool.or_false,Bool.or_eq_false_iff,beq_eq_false_iff_ne]at C;obtain⟨lZ,gM,Ho,Oc⟩:=C;exact(if_neg Oc).trans<|J _ Ho gM lZ
    ·exact Z.keep λα α e=>I _ _<|u _ _ e
    ·exact Nat.lt_of_lt_of_eq (lt_succ_self _) ab
    ·exact lt_size<|I _ _<|u _ _ H
   ·skip;rw[Nm<|Qn _ O];refine υ ?_;refine Vk (s:=_) (Qn _ O) Qp ?_;refine ψ ?_;exact d
  ·obtain⟨x,fZ,C⟩:=Yc _ O;refine υ ?_;rw[C];refine ψ<|ψ ?_;exact d
 ·intro aaw Zj R LN U J;refine υ<|km U ((J _ (by decide) (by decide)<|by decide).trans RQ) ?_;refine hO rfl<|υ<|Kj U (.inr<|.inr<|.inl rfl) λQb U=>?_;refine υ<|km U ((if_neg<|by decide).trans<|(J _ (by decide) (by decide)<|by decide).trans abW) ?_;have ta:=j.keep U.k;refine υ<|Ig (g:=g) (dr:=dr) (os:=os) () (λκ=>(∀b o,¬k.X b->Qb.get? b=some o->κ.get? b=some o)/\k.bM a κ) (λD d=>?_) λp Zk z=>?_
  ·have S1:Qb.Ns cStatics ms:=G.at λo=>U.k _ o;clear F L l U P j;clear Jy WQ WN WL WM WO WT eI V WS WR Lh RP rV dt ο mN rG T Bn Bx Wq Dm FJ Yw;cases k with
   |obj=>refine iS ?_;refine wP<|ψ ?_;exact d _ _ ⟨λα α α e=>e,trivial⟩
   |exc=>refine iS ?_;refine υ<|υ<|υ ?_;refine wpAny_nsGet S1 ?_;rw[ta];refine ψ<|υ ?_;refine H2 S1 ta λaeg ZL ZA=>?_;refine wpAny_nsSet ZL λp KA Ol=>?_;refine ψ ?_;exact d _ _ ⟨λb o q e=>(Ol.2 _ q).trans<|(ZA.2 _ q).trans e,_,KA,λx C=>(if_neg (by rintro rfl;revert C;decide)).trans<|(if_neg (by rintro rfl;revert C;decide)).trans<|ta _⟩
   |sub B oK pN Au sg p8 subs=>obtain⟨_,Y,_,abn⟩:=ta;refine iS ?_;refine υ ?_;refine B2 (s:=⟨Qb,g,dr,_,os⟩) Y (by show(subs++[Value.ref a]).length<=1000;rw[Δ];exact Nat.le_trans (Nat.add_le_add_right abn 1)<|by decide) (zero_le _) λp H Ol=>?_;refine ψ ?_;exact d _ _ ⟨λb o q e=>(Ol.2 _ q).trans e,H⟩
  obtain⟨Kw,Z⟩:=z;have adk:¬k.X a:=λx=>let⟨o,e⟩:=U.x _ x;(U.f _ _ e).1 rfl;have ZZ:¬k.X ns:=λx=>let⟨o,e⟩:=U.x _ x;(U.f _ _ e).2 rfl;exact l _ _ _ _ J (Kw _ _ adk U.o) (U.n.keep λo e=>Kw _ _ ZZ e) (λb a7=>(U.t b a7).keep λo=>Kw _ o<|U.y b a7) (λb o q e=>Kw _ _ q<|U.k _ _ e) Z
 ·intro f v U;refine υ (Ry (j.keep U.k)<|υ<|qF (k.TU eu name t qn tq) U (by decide) (λf U=>?_)<|by exact k.casesOn rfl rfl λα α α α α α α=>rfl);refine Rj<|Ig (g:=g) (dr:=dr) (os:=os) () (Xv h0 k.X a ns (k.cd name qn a ns) (k.TU eu name t qn tq) λm'=>∀x:Str,x≠"__dict__"->x≠"__qualname__"->m' x=m x) (λD d=>?_) λrg Zi z=>?_
  ·clear F L;cases k.dict with
   |false=>exact cV Bool.false_ne_true<|ψ<|d _ _ ⟨_,_,U,λα α q=>if_neg q⟩
   |true=>refine hO rfl<|υ<|km U ((if_neg<|by decide).trans WO)<|hO rfl ?_;refine υ<|υ<|nd_fresh<|nd_pure<|ψ<|υ ?_;refine uL (λdC C Xp Xm ex Oh=>?_) (by show 4<=sizeLine+2;rw[sizeLine_eq];decide) rfl;refine Kj (U.new Xp ex ⟨_,_,.inr<|.inr rfl,Xm,rfl,λα h=>nomatch h⟩) (.inr<|.inr<|.inr ⟨dC,.head _,rfl⟩) λar U=>?_;exact d _ _ ⟨_,_,U,λx q r=>(if_neg q).trans<|if_neg r⟩
  obtain⟨ad8,aex,U,ON⟩:=z;refine Rj<|Ig (g:=g) (dr:=dr) (os:=os) () (Xv h0 k.X a ns (k.cd name qn a ns) (k.TU eu name t qn tq) λm'=>∀x:Str,x≠"__weakref__"->x≠"__dict__"->x≠"__qualname__"->m' x=m x) (λD d=>?_) λaaw Zj z=>z.casesOn λα α U J=>l _ _ _ _ U J
  ·clear F L;cases k.weak with
   |false=>exact cV Bool.false_ne_true<|ψ<|d _ _ ⟨_,_,U,λα α=>ON _⟩
   |true=>refine hO rfl<|υ<|km U ((ON _ (by decide)<|by decide).trans WT)<|hO rfl ?_;refine υ<|υ<|nd_fresh<|nd_pure<|ψ<|υ ?_;refine uL (λdC C Xp Xm ex Oh=>?_) (by show 4<=sizeLine+2;rw[sizeLine_eq];decide) rfl;refine Kj (U.new Xp ex ⟨_,_,.inr<|.inr rfl,Xm,rfl,λα h=>nomatch h⟩) (.inr<|.inr<|.inr ⟨dC,.head _,rfl⟩) λar U=>?_;exact d _ _ ⟨_,_,U,λx q r c7=>(if_neg q).trans<|ON _ r c7⟩
 ·intro f v U;have N:=j.keep U.k;refine υ<|k_made N<|υ<|qF (k.O1 eu name t qn tq) U (by decide) (λf U=>?_) rfl;have N:=j.keep U.k;refine υ<|F2 N U ((if_neg<|by decide).trans Jy)<|υ<|F1 N U λf U=>l _ _ U
 ·intro f v U;refine υ<|wpAny_of_eq Pn<|υ ?_;refine UO (j.keep U.k) ?_;refine wP<|υ ?_;refine xR false (λD d=>?_) ?_
  ·have ad3:=U.f;have N:=j.keep U.k;clear F L l P U;cases k with
   |obj=>
    have yv:List.filter (λx=>x !=Value.ref a) (Value.ref a::dz.obj.rest)=[Value.type "object"]:=by have W:(Value.ref a !=Value.ref a)=false:=bne_self_eq_false _;rw[List.filter,W];rfl
    rw[yv];refine wP<|ψ ?_;exact d
   |exc=>
    have yv:List.filter (λx=>x !=Value.ref a) (Value.ref a::dz.exc.rest)=dz.exc.rest:=by have W:(Value.ref a !=Value.ref a)=false:=bne_self_eq_false _;rw[List.filter,W];rfl
    rw[yv];refine wP<|wP<|wP<|ψ ?_;exact d
   |sub B oK=>
    have abZ:B≠a:=(ad3 _ _ j.2.1).1;obtain⟨_,V2,⟨y3,TR,X2,ab0,_⟩,_⟩:=N;have yv:List.filter (λx=>x !=Value.ref a) [Value.ref a,Value.ref B,Value.type "object"]=[Value.ref B,Value.type "object"]:=by have W:(Value.ref a !=Value.ref a)=false:=bne_self_eq_false _;have cp:(Value.ref B !=Value.ref a)=true:=MD abZ;rw[List.filter,W];dsimp only;rw[List.filter,cp];rfl
    show wpAny _ _ (List.anyM _<|List.filter (λx=>x !=Value.ref a) [Value.ref a,Value.ref B,Value.type "object"]) _ _ _;rw[yv];refine υ<|υ<|fN V2<|ψ<|υ<|fN V2<|ψ<|υ ?_;refine lD X2 ab0 ?_;refine ψ<|wP<|ψ ?_;exact d
  refine υ<|Ed (k.cd name qn a ns) U rfl rfl (λf U=>l _ _ U) (by show({name:=name,bases:=k.bases,mro:=.ref a::k.rest,ns:=ns,qualname:=qn,hasDel:=_||false}:ClassData)=_;dsimp only;rw[Lh];rfl)
 ·refine υ<|Zm U λXD f v U=>?_;refine υ ?_;refine km U ((if_neg<|by decide).trans Jy) ?_;refine υ<|υ<|υ ?_;refine km U ((if_neg<|by decide).trans WQ) ?_;refine ψ<|υ<|υ ?_;refine km U ((if_neg<|by decide).trans WN) ?_;refine ψ<|ψ<|υ ?_;refine km U ((if_neg<|by decide).trans WL) ?_;refine υ ?_;refine km U ((if_neg<|by decide).trans WM) ?_;exact l _ _ U
noncomputable def dF:List Str:=["__module__","__qualname__","__firstlineno__","__static_attributes__","__doc__","__dict__","__weakref__"]
theorem h7.vR{α β:Type}{R:α->β->Prop}{l:List α}{m:List β}(h:h7 R l m){b:β}(c:b∈m):∃a,R a b:=by
 induction h with
 |nil=>cases c
 |cons r _ d=>
  rcases ae6 c with rfl|c
  ·exact⟨_,r⟩
  ·exact d c
theorem jD{P:Addr}(x:h.IsCode c P ps)(k:∀b o,h.get? b=some o->κ.get? b=some o):κ.IsCode c P ps:=x.keeps k
theorem yN{P:Addr}(x:h.IsCode c P ps)(d:∀o,h.get? c=some o->κ.get? c=some o)(b:∀o,h.get? P=some o->κ.get? P=some o):κ.IsCode c P ps:=by obtain⟨o,vs,g,m,e,n,l,f,w,op,p,r,t,y,s,u,v,i,j,k,q⟩:=x;exact⟨o,vs,g,m,e,n,l,f,w,op,d _ p,r,t,y,s,u,v,b _ i,j,k,q⟩
theorem h7.imp{α β:Type}{R S:α->β->Prop}{l:List α}{m:List β}(h:h7 R l m)(k:∀a b,R a b->S a b):h7 S l m:=by
 induction h with
 |nil=>exact .nil
 |cons r _ c=>exact .cons (k _ _ r) c
theorem y6(x:h.NoLimit)(k:∀o,h.get? cStatics=some o->κ.get? cStatics=some o):κ.NoLimit:=by obtain⟨b,d,c⟩:=x;exact⟨b,d.at λo e=>k o e,c⟩
theorem zg{Q:Option Value->Shared->Prop}(h:∀q κ,(∀b o,s.heap.get? b=some o->κ.get? b=some o)->κ.get? q=some {cls:=.type "builtin_function_or_method",data:=.fields #[.builtin "type.__prepare__",.type "type"]}->s.heap.objs.size=q->κ.objs.size=q+1->Q (some<|.ref q) {s with heap:=κ,toks:=s.toks+1}):wpAny (model prog w) A (getAttr? (.type "type") "__prepare__") Q E s:=As<|h _ _ (λx x e=>get?_push_of_some _ e) (get?_push_size _ rfl) rfl<|Heap.size_push ..
theorem wU{a b:Value} (c:s.heap.get? q=some {cls:=.type "builtin_function_or_method",data:=.fields #[.builtin "type.__prepare__",.type "type"]})(h:∀n κ,(∀b o,s.heap.get? b=some o->κ.get? b=some o)->κ.get? n=some {cls:=.type "dict",data:=.dict #[]}->s.heap.objs.size=n->κ.objs.size=n+1->Q (.ref n) {s with heap:=κ}):wpAny (model prog w) A (call (.ref q) [a,b]) Q E s:=zf c<|h _ _ (λx x e=>get?_push_of_some _ e) (get?_push_size _ rfl) rfl<|Heap.size_push ..
theorem PA:typeLookup (.type "dict") "__getitem__"=pure (some<|.builtin "dict.__getitem__"):=by rw[typeLookup_type,builtinLookup_eq_fast];kernel_rfl
theorem dz.VO(d:h.Ns cStatics ms)(c:k.Pre h ms)(b:Addr)(x:k.X b):@LT.lt Nat _ b h.objs.size:=(dz.VN d c b x).elim λy e=>lt_size e
@[elab_as_elim] theorem Y2{hb:Type}{P:(hb->Sem β)->Prop}(ae1:hb->Sem β)(R:(hb->Sem β)->Prop)(c:R ae1)(b:∀K,R K->P K):P ae1:=b ae1 c
theorem aav(k:dz):sizeOk<|.seq k.given.toArray:=by cases k<;>first|(show 0<=sizeLine;rw[sizeLine_eq];exact(eB 0x100e10000007808 [] ι))|(show 1<=sizeLine;rw[sizeLine_eq];exact(eB 0x100e100000078118 [] ι))
inductive Ky(k:dz)(name qual:Str)(s:Shared)(eu:Addr)(h:Heap)(m:Str->Option Value)(a:Addr)(s':Shared):Prop
 |mk (ns κ tk m' dW tq:_):s'={s with heap:=κ,toks:=tk}->κ.get? a=some (gy name qual s.toks tq k.bases (.ref a::k.rest) ns k.mk (k.ed eu) [])->dQ κ ns m' (gR dW)->(∀x,dF.contains x=false->m' x=m x)->
  (∀b o,¬k.X b->h.get? b=some o->κ.get? b=some o)->k.bM a κ->h.objs.size<=ns->ns<a->a<κ.objs.size->Ky k name qual s eu h m a s'
set_option maxHeartbeats 8000000 in
theorem xI{name qual:Str}{L:List Str}{rT:Nat}{P:Addr}{cJ:Str->Option Value}
 (WB:sysModules<s.heap.objs.size) (Lf:(scope.names.lookup ("__class__":Str)==some NameKind.cell)=false) (aaW:(scope.names.lookup ("__classdict__":Str)==some NameKind.cell)=false)
 (sY:env.code=.ref c) (Ut:env.globals=mainGlobals) (kr:s.heap.IsCode c P ps) (m1:codeAmong pos ps.toList=none) (dO:s.heap.Ns mainGlobals cJ) (Y:s.heap.BuiltinsAt cJ P) (yx:mainGlobals≠P) (aaX:closureFor scope env=pure []) (IZ:s.heap.NoLimit) (jj:A.depth<recursionLimit) {nm:Value} (Qo:cStatics≠P) (ak:scope.kind=.class) (O:scope.names.lookup ("__name__":Str)=none) {ds:List bx} (De:body=ds.map bx.stmt) (IV:hasAnns (ds.map bx.stmt)=false) (IW:docOf (ds.map bx.stmt)=none) (Bp:∀d∈ds,d.ok=true/\scope.names.lookup d.name=some .local) (abm:ds.Pairwise λd e=>apart d.pos e.pos=true) {oA:Str} {oB:Tok} (md:nm=.str oA oB) (abB:scope.names.lookup ("__module__":Str)=none) (abC:scope.names.lookup ("__qualname__":Str)=none) (abA:scope.names.lookup ("__firstlineno__":Str)=none) (FI:scope.names.lookup ("__static_attributes__":Str)=none) (Lw:cJ "__name__"=some nm) (QX:∀d∈ds,ia.contains d.name=false) (Dm:(name.cps.any λc=>0xD800<=c&&c<=0xDFFF)=false) (FJ:name.cps.contains 0=false) {ms:Str->Option Value} (fK:s.heap.Ns cStatics ms) (pG:ms "thirdparty.any"=none) (dT:k.Pre s.heap ms) (aaO:¬k.X P) (aaP:¬k.X c) (aaH:∀κ,(∀b o,b≠P->s.heap.get? b=some o->κ.get? b=some o)->k.Pre κ ms) (Lh:ds.length<=500)
 (lu:∀a ns κ tk m' dW Z dB n₁ t tq eu,κ.get? a=some (gy name qual t tq k.bases (.ref a::k.rest) ns k.mk (k.ed eu) [])->dQ κ ns m' (gR dW)->(∀x,dF.contains x=false->m' x=df ds Z (λβ=>none) x)->h7 (λ(d:bx) f=>FnAt (·<n₁) κ f d.name (qual++"."++d.name) d.params d.body d.scope) ds Z->(∀b o,b≠P->¬k.X b->s.heap.get? b=some o->κ.get? b=some o)->κ.IsCode c P (ps++#[rawInt pos.line,rawInt pos.col,.ref dB])->k.bM a κ->s.heap.objs.size<=n₁->n₁<=ns->ns<a->a<κ.objs.size->Q (.ref a) {s with heap:=κ,toks:=tk}):
 wpAny (model prog w) A (buildClass name qual k.given [] body scope L rT env pos none) Q E s:=by
 obtain⟨bm,U9,mZ,kh,jk,iQ,ea,Df,qm,sZ⟩:=A2 Y
 refine υ<|uL (λeu η Ep TM C B=>?_) (aav k) rfl
 refine υ<|xR ⟨k.given,false⟩ (λe4 G=>?_) ?_
 ·clear lu;cases k with
  |obj=>exact ψ G
  |exc=>refine iS<|wP<|ψ ?_;exact G
  |sub=>have Fp:=Ep _ _ dT.2.1;refine iS<|υ<|i0 Fp<|ψ<|ψ ?_;exact G
 refine cY ?_
 conv=>arg 3;whnf
 refine Y2 (λYt:Value=>Bind.bind (isType Yt) _) (λJ=>wpAny (model prog w) A (J<|.type "type") Q E ⟨η,s.gens,s.drawn,s.toks,s.os⟩) ?_ λJ oN=>?_
 rotate_left
 ·cases k with
  |obj=>exact wP oN
  |exc=>exact wP oN
  |sub=>have Fp:=Ep _ _ dT.2.1;refine υ<|i0 Fp<|ψ ?_;exact oN
 refine wP<|υ ?_
 refine xR (.type "type") (λe4 G=>?_) ?_
 ·clear lu;cases k with
  |obj=>exact ψ G
  |exc=>refine iS<|wP<|υ<|wP<|ψ<|ψ ?_;exact G
  |sub=>have Fp:=Ep _ _ dT.2.1;refine iS<|υ<|i0 Fp<|ψ<|υ<|wP<|ψ<|ψ ?_;exact G
 refine υ<|υ<|nd_fresh<|nd_pure<|ψ<|wP<|wpAny_holding<|υ<|zg ?_
 intro q μ rG mN j z
 refine υ<|wU mN λg X TO OA u N=>?_
 refine υ ?_
 have aj:(g==sysModules)=false:=by rw[beq_eq_false_iff_ne];have:@LT.lt Nat _ sysModules s.heap.objs.size:=WB;intro e;have:@Eq Nat g sysModules:=e;exact(Nat.lt_irrefl 0<|Ml 0x121ebb838080802e0602e6512e91184502e4312e91182302e2101e10 [_,_,_,_,_,_,_] ι WB C B j z u e)
 refine cV (by rw[aj];decide)<|ψ<|υ ?_
 have aek:(⟨X,s.gens,s.drawn,s.toks,s.os⟩:Shared).TypeIs (.ref g) "dict":=⟨_,OA,rfl⟩
 refine wpAny_specialOf ⟨_,OA,rfl⟩ PA<|cV Bool.false_ne_true ?_
 refine wpAny_holding ?_
 refine cV (by rw[Lf];decide)<|wP ?_
 refine cV (by rw[aaW];decide) ?_
 have d6:∀b o,s.heap.get? b=some o->X.get? b=some o:=λb o e=>TO _ _<|rG _ _<|Ep _ _ e
 have Yh:=jD kr d6
 have ea:=d6 _ _ ea
 have aa3:=dO.at λo e=>d6 _ _ e
 refine wP<|υ<|xN sY Yh m1 ?_
 intro D i bl Td V CB M abS aci JE
 dsimp only at V CB M
 rw[Ut]
 have adE:=yx
 have QK:=aa3.at λo e=>V _ _ yx e
 have ael:bl.BuiltinsAt cJ P:=⟨bm,U9,mZ,kh,jk,iQ,V _ _ iQ ea,Df,qm,sZ⟩
 refine υ<|wpAny_builtinsFor QK mZ kh (V _ _ iQ ea) Df qm sZ ?_
 refine υ<|υ<|wpAny_nsGet QK ?_
 rw[Lw]
 refine EB rfl λF cK U aeM i2 Zr=>?_
 dsimp only at i2
 refine υ ?_
 refine wpAny_of_eq aaX ?_
 refine wpAny_holding<|υ ?_
 have gB:∀b o,b≠P->s.heap.get? b=some o->cK.get? b=some o:=λb o q e=>U _ _<|V _ _ q<|d6 _ _ e
 refine wpAny_enterFrame (y6 IZ λo e=>gB _ _ Qo e) jj ?_
 refine υ<|wpAny_onRaise<|υ ?_
 have ZM:dQ X g (λβ=>none)<|gR []:=⟨[],_,OA,(λe he=>nomatch he),(λx=>rfl),λe he=>nomatch he⟩
 have Gh:g≠P:=by have:@LT.lt Nat _ P s.heap.objs.size:=kr.lt.2;intro e;have:@Eq Nat g P:=e;exact(Nat.lt_irrefl 0<|Ml 0x121ebb838080802e6501e0602e5412e91183402e3212e91181202e10 [_,_,_,_,_,_,_] ι C B j z u ‹_› e)
 have ZN:dQ cK g (λβ=>none)<|gR []:=ZM.keep λo e=>U _ _<|V _ _ Gh e
 have Wi:cK.Ns mainGlobals cJ:=QK.at λo e=>U _ _ e
 refine Nt ak O ZN rfl Wi Lw ?_
 refine υ ?_
 refine lO ak (.inr ⟨abB,by decide⟩) ZN (.inl ⟨_,_,md⟩) λeP ade Xg acU=>?_
 refine υ<|υ<|nd_fresh<|nd_pure<|ψ<|υ ?_
 refine lO ak (.inr ⟨abC,by decide⟩) ade (.inl ⟨_,_,rfl⟩) λiP adf Xh acV=>?_
 refine υ<|υ<|nd_fresh<|nd_pure<|ψ<|υ ?_
 refine lO ak (.inr ⟨abA,by decide⟩) adf (.inr<|.inl ⟨_,_,rfl⟩) λp adg Xi acW=>?_
 refine ψ<|υ ?_
 subst De
 refine wpAny_run<|codeAny_body IV IW ?_
 have F3:∀b o,b≠g->cK.get? b=some o->p.get? b=some o:=λb o q e=>(Xi.2 _ q).trans<|(Xh.2 _ q).trans<|(Xg.2 _ q).trans e
 have Zs:p.objs.size=cK.objs.size:=by rw[Xi.1,Xh.1,Xg.1]
 have aeb:@LE.le Nat _ X.objs.size D:=CB
 have aeA:@LE.le Nat _ X.objs.size i:=M
 have vH:D≠g:=by intro e;have:@Eq Nat D g:=e;exact(Nat.lt_irrefl 0<|hB 0x121e3e838080802e1200e2012e911810 [_,_,_] ι N CB e)
 have ri:g≠i:=by intro e;have:@Eq Nat g i:=e;exact(Nat.lt_irrefl 0<|hB 0x121e3e838080812e2100e2012e911810 [_,_,_] ι N M e)
 have V1:@LT.lt Nat _ mainGlobals s.heap.objs.size:=dO.lt
 have Bq:mainGlobals≠g:=by intro e;have:@Eq Nat mainGlobals g:=e;exact(Nat.lt_irrefl 0<|Ml 0x121ebb838080812e5601e0602e5412e91183402e3212e91181202e10 [_,_,_,_,_,_,_] ι C B j z u V1 e)
 have Yb:mainGlobals≠i:=by intro e;have:@Eq Nat mainGlobals i:=e;exact(Nat.lt_irrefl 0<|O0 0x121efa038080812e70f01e00f00e7612e91185602e5412e91183402e3212e91181202e10 [_,_,_,_,_,_,_,_,_] ι C B j z u N M V1 e)
 have blt:@LT.lt Nat _ bm X.objs.size:=lt_size ea
 have Z6:bm≠i:=by intro e;have:@Eq Nat bm i:=e;exact(Nat.lt_irrefl 0<|hB 0x121e3e838080812e1201e0200e10 [_,_,_] ι M blt e)
 have ado:bm≠g:=Gi ea OA<|Df▸(by decide:Value.type "module"≠Value.type "dict")
 have aa4:p.Ns mainGlobals cJ:=Wi.at λo e=>F3 _ _ Bq e
 have aaS:p.BuiltinsAt cJ i:=⟨bm,U9,mZ,kh,jk,Z6,F3 _ _ ado<|U _ _<|V _ _ iQ ea,Df,qm,sZ⟩
 have YJ:p.IsCode D i (triples []).toArray:=(((jD JE U).sameBut Xg vH ri.symm).sameBut Xh vH ri.symm).sameBut Xi vH ri.symm
 have acn:@LT.lt Nat _ i bl.objs.size:=JE.lt.2
 have BK:@LT.lt Nat _ g bl.objs.size:=by have:=JE.lt.1;have:@LT.lt Nat _ D bl.objs.size:=this;exact(hB 0x101e3101e3200e2012e911810 [_,_,_,_] ι N CB abS)
 have RV:@LT.lt Nat _ g p.objs.size:=by rw[Zs,Zr];exact(ck 0x101e91181201e0202e10 [_,_,_] ι i2 BK)
 have acm:@LT.lt Nat _ i p.objs.size:=by rw[Zs,Zr];exact(ck 0x101e91181201e0202e10 [_,_,_] ι i2 acn)
 refine ME (n₁:=p.objs.size) ak ri vH Bq Yb RV acm ds [] _ _ _ _ (λd H=>⟨(Bp d H).1,(Bp d H).2,λq G=>nomatch G⟩) abm (Nat.le_refl _) aa4 YJ aaS adg ?_
 intro Z OT nS aeE aeZ Wc Xq aep aem LF ox RB acX
 refine υ<|wpAny_onRaise<|υ ?_
 refine Eb _ _ _ λvs Zi=>?_
 refine υ ?_
 refine Ea λT rg Er ZF ov TG=>?_
 dsimp only at ov TG Er
 refine υ ?_
 have ZJ:=(Xq.keep λo e=>Er _ _ e).mono λv (x:gR OT v)=>x.mono (T:=T::OT) λβ h=>.tail _ h
 refine lO ak (.inr ⟨FI,by decide⟩) ZJ (.inr<|.inr<|.inr ⟨T,.head _,rfl⟩) λI ZK Oj ZD=>?_
 refine ψ<|υ ?_
 have Du:∀b o,b≠g->nS.get? b=some o->I.get? b=some o:=λb o q e=>(Oj.2 _ q).trans<|Er _ _ e
 have WI:∀b o,b≠P->b≠i->b≠g->X.get? b=some o->I.get? b=some o:=λb o b5 cp jt e=>Du _ _ jt<|RB _ _ cp jt<|F3 _ _ jt<|U _ _<|V _ _ b5 e
 have RC:∀b o,b≠P->s.heap.get? b=some o->I.get? b=some o:=λb o q e=>by
  have l:@LT.lt Nat _ b s.heap.objs.size:=lt_size e;have cp:b≠i:=by intro e;have:@Eq Nat b i:=e;exact(Nat.lt_irrefl 0<|O0 0x121efa038080812e70f01e00f00e7612e91185602e5412e91183402e3212e91181202e10 [_,_,_,_,_,_,_,_,_] ι C B j z u N M l e)
  have jt:b≠g:=by intro e;have:@Eq Nat b g:=e;exact(Nat.lt_irrefl 0<|Ml 0x121ebb838080812e5601e0602e5412e91183402e3212e91181202e10 [_,_,_,_,_,_,_] ι C B j z u l e)
  exact WI b o q cp jt<|d6 _ _ e
 have aew:@Eq Nat s.heap.objs.size eu:=C
 have Z8:eu≠P:=by have:@LT.lt Nat _ P s.heap.objs.size:=kr.lt.2;intro e;have:@Eq Nat eu P:=e;exact(Nat.lt_irrefl 0<|hB 0x121e3e838080802e2101e0202e10 [_,_,_] ι C ‹_› e)
 have XE:eu≠i:=by intro e;have:@Eq Nat eu i:=e;exact(Nat.lt_irrefl 0<|Ml 0x121ebb838080812e6100e6512e91184502e4312e91182302e2012e911810 [_,_,_,_,_,_,_] ι B j z u N M e)
 have Z7:eu≠g:=by intro e;have:@Eq Nat eu g:=e;exact(Nat.lt_irrefl 0<|HF 0x121e7d038080812e4102e4312e91182302e2012e911810 [_,_,_,_,_] ι B j z u e)
 have rk:I.get? eu=some {cls:=.type "tuple",data:=.seq k.given.toArray}:=WI _ _ Z8 XE Z7<|TO _ _<|rG _ _ TM
 have adm:hc X g 0:=λes n e=>by rw[OA]at e;injection e with e;have j:=congrArg (λo:Obj=>(Sl o).size) e;exact Nat.le_of_eq<|show es.length=0 from j.symm
 have Z0:hc I g 1000:=by have q:=ZD _<|(acX _<|acW _<|acV _<|acU _<|adm.back ZM λo e=>U _ _<|V _ _ Gh e).back Xq λo e=>Er _ _ e;exactλes n e=>Nat.le_trans (q es n e)<|aV 0x100e3e8389118909118911891180800e1f4380 [_] ι Lh
 have Jx:∀x,ia.contains x=true->(∀d∈ds,d.name≠x):=λx O d H e=>by have:=QX d H;rw[e,O]at this;cases this
 have X4:∀b∈T::OT,e6 I b:=by
  intro b Y;have Le:b≠g->e6 rg b->e6 I b:=λq x=>x.keep λo e=>(Oj.2 _ q).trans e;rcases ae6 Y with rfl|Y
  ·refine Le ?_ ⟨"tuple",_,.inr<|.inl rfl,ZF,rfl,λβ q=>nomatch q⟩;intro e;have aei:@LT.lt Nat _ g nS.objs.size:=Xq.ns.lt;have:@Eq Nat b g:=e;have:@Eq Nat nS.objs.size b:=ov;exact(Nat.lt_irrefl 0<|O0 0x121ebb838080802e10f02e0f700e7612e5612e91184502e4301e3200e2012e911810 [_,_,_,_,_,_,_,_,_] ι N CB abS i2 Zr Zs LF ov e)
  ·rcases Wc b Y with q|q
   ·cases q
   ·obtain⟨d,H⟩:=h7.vR ox q;refine Le ?_<|(N4 H.1).keep λo e=>Er _ _ e;intro e;have:@Eq Nat b g:=e;have:@LE.le Nat _ p.objs.size b:=H.2.2;exact(Nat.lt_irrefl 0<|HF 0x121e7d038080802e1400e4301e3200e2012e911810 [_,_,_,_,_] ι N M acm H.2.2 e)
 have Uk:∀x,ia.contains x=true->∀m,df ds Z m x=m x:=λx O m=>kj<|Jx x O
 have K:∀x:Str,ia.contains x=true->x≠"__static_attributes__"->(["__firstlineno__","__qualname__","__module__"]:List Str).contains x=false->(if x=Str.ofString "__static_attributes__"then some (Value.ref T)else df ds Z (λy=>if y=Str.ofString "__firstlineno__"then some (Value.int (↑rT)<|Td+1+1+1)else if y=Str.ofString "__qualname__"then some (Value.str qual<|Td+1)else if y=Str.ofString "__module__"then some nm else none) x)=none:=λx O η μ=>by simp only[contains_cons,contains_nil,Bool.or_eq_false_iff,beq_eq_false_iff_ne]at μ;rw[if_neg η,Uk x O,if_neg μ.1,if_neg μ.2.1,if_neg μ.2.2.1]
 show wpAny _ _ (call (.type "type") [.str name s.toks,.ref eu,.ref g] []) _ _ _
 have aaL:∀b∈T::OT,¬k.X b:=by
  intro b Y e;have VE:@LT.lt Nat _ b s.heap.objs.size:=dz.VO fK dT b e;have Vd:@LE.le Nat _ s.heap.objs.size p.objs.size:=by have:=Nat.le_of_lt RV;exact(TS 0x100e6000e6502e5412e91183402e3212e91181202e10 [_,_,_,_,_,_,_] ι C B j z u this)
  rcases ae6 Y with q|q
  ·exact Nat.lt_irrefl _<|Nat.lt_of_lt_of_le VE<|Nat.le_trans Vd<|Nat.le_trans LF<|Nat.le_of_eq<|Eq.trans (α:=Nat) ov<|Eq.symm (α:=Nat) q
  ·rcases Wc b q with q|q
   ·cases q
   ·obtain⟨d,H⟩:=h7.vR ox q;have:@LE.le Nat _ p.objs.size b:=H.2.2;exact(Nat.lt_irrefl 0<|adl 0x121efa038080800e7601e0701e6502e5412e91183402e3212e91181202e10 [_,_,_,_,_,_,_,_] ι C B j z u RV VE H.2.2)
 refine(Hg (R:=Ky k name qual s eu I<|df ds Z λβ=>none) (λA' e4 z0 G=>newObj (k:=k) (S:=T::OT) rk ZK aj (K _ (by decide) (by decide)<|by decide) ?_ Dm FJ (qn:=qual) (tq:=Td+1) ?_ (K _ (by decide) (by decide)<|by decide) (K _ (by decide) (by decide)<|by decide) (K _ (by decide) (by decide)<|by decide) (K _ (by decide) (by decide)<|by decide) (K _ (by decide) (by decide)<|by decide) (K _ (by decide) (by decide)<|by decide) (K _ (by decide) (by decide)<|by decide) (K _ (by decide) (by decide)<|by decide) (K _ (by decide) (by decide)<|by decide) (K _ (by decide) (by decide)<|by decide) (fK.at λo e=>RC _ _ Qo e) pG (aaH _ RC) aaL X4 (λes n e=>Z0 es n e) ?_) (λa s' r=>?_) λa s' r=>?_)
 ·rw[if_neg (by decide),Uk _ rfl,if_neg (by decide),if_neg (by decide),if_pos rfl,md];rfl
 ·rw[if_neg (by decide),Uk _ rfl,if_neg (by decide),if_pos rfl]
 ·intro a ns κ tk m' dW aX c7 e8 nc nd acp zi wV wW;refine G _ _ ⟨ns,κ,tk,m',dW,_,rfl,aX,c7,λx O=>?_,nd,acp,zi,wV,wW⟩;have W:∀y:Str,dF.contains y=true->x≠y:=λy ar e=>by rw[e,ar]at O;cases O
  have ach:qv.contains x=false:=by have b5:=W "__qualname__" (by decide);have cp:=W "__dict__" (by decide);have jt:=W "__weakref__" (by decide);have oP:=W "__doc__" (by decide);simp only[qv,contains_cons,contains_nil,Bool.or_eq_false_iff,beq_eq_false_iff_ne];exact⟨b5,cp,jt,oP,trivial⟩
  rw[e8 x ach,if_neg<|W _<|by decide];refine oD ?_;rw[if_neg (W _<|by decide),if_neg (W _<|by decide),if_neg<|W _<|by decide]
 ·obtain⟨ns,κ,tk,m',dW,tq,rfl,aX,_⟩:=r;exact⟨_,aX,rfl⟩
 ·obtain⟨ns,κ,tk,m',dW,tq,rfl,aX,c7,e8,nc,aco,nd,zi,wV⟩:=r;have acy:∀b,@LE.le Nat _ s.heap.objs.size b->¬k.X b:=λb q e=>fF q<|dz.VO fK dT b e;have XJ:c≠g:=by have:@LT.lt Nat _ c s.heap.objs.size:=kr.lt.1;intro e;have:@Eq Nat c g:=e;exact(Nat.lt_irrefl 0<|Ml 0x121ebb838080812e5601e0602e5412e91183402e3212e91181202e10 [_,_,_,_,_,_,_] ι C B j z u ‹_› e)
  have adh:P≠i:=by have:@LT.lt Nat _ P s.heap.objs.size:=kr.lt.2;intro e;have:@Eq Nat P i:=e;exact(Nat.lt_irrefl 0<|O0 0x121efa038080812e70f01e00f00e7612e91185602e5412e91183402e3212e91181202e10 [_,_,_,_,_,_,_,_,_] ι C B j z u N M ‹_› e)
  have aad:c≠i:=by have:@LT.lt Nat _ c s.heap.objs.size:=kr.lt.1;intro e;have:@Eq Nat c i:=e;exact(Nat.lt_irrefl 0<|O0 0x121efa038080812e70f01e00f00e7612e91185602e5412e91183402e3212e91181202e10 [_,_,_,_,_,_,_,_,_] ι C B j z u N M ‹_› e)
  have Xf:I.objs.size=rg.objs.size:=Oj.1;have Vd:@LE.le Nat _ s.heap.objs.size p.objs.size:=by have:=Nat.le_of_lt RV;exact(TS 0x100e6000e6502e5412e91183402e3212e91181202e10 [_,_,_,_,_,_,_] ι C B j z u this)
  refine ψ<|lu a ns κ tk m' dW Z D p.objs.size _ tq eu aX c7 e8 ?_ (λb o q cp e=>nc _ _ cp<|RC b o q e) ?_ aco Vd ?_ zi wV
  ·refine ox.imp λd f x=>x.1.keeps λb o nb β e=>nc _ _ (acy _<|Nat.le_trans Vd<|Nat.not_lt.mp nb)<|Du _ _ (λq=>nb<|q▸RV) e
  ·refine yN aci (λo e=>nc _ _ aaP<|Du _ _ XJ<|RB _ _ aad XJ<|F3 _ _ XJ<|U _ _ e) λo e=>nc _ _ aaO<|Du _ _ (Ne.symm Gh)<|RB _ _ adh (Ne.symm Gh)<|F3 _ _ (Ne.symm Gh)<|U _ _ e
  ·have:@LE.le Nat _ p.objs.size nS.objs.size:=LF;have ad5:@Eq Nat rg.objs.size<|T+1:=TG;have adt:@Eq Nat nS.objs.size T:=ov;have aeB:@LE.le Nat _ I.objs.size ns:=nd;have ad6:@Eq Nat I.objs.size rg.objs.size:=Xf;show@LE.le Nat _ p.objs.size ns;exact(HF 0x100e5012e3400e5412e91182302e2100e10 [_,_,_,_,_,_] ι LF ov TG nd Xf)
variable {e:Expr}
theorem uk{name:Str}{c:List Expr}{i:Option Scope}{b:List Str}{given:List Value}{d0:Str->Option Value}{Q:Flow->Shared->Prop}
 (g:s.heap.Ns env.builtins d0) (e:d0 "__build_class__"=some (.builtin "__build_class__"))
 (f:∀d:Args->Shared->Prop,(∀tk,d ⟨given,[]⟩ {s with toks:=tk})->wpAny M A (evalArgs (.builtin "__build_class__") false (backTo pos<|starEach c env) []) d E s)
 (h:∀tk,wpAny M A (buildClass name (qualnameIn env name name) given [] body scope b pos.line env pos none) (λv s'=>wpAny M A (storeName env name v) (λy j=>Q .next j) E s') E {s with toks:=tk}):
 wpAny M A (exec (.ClassDef name c [] body [] [] scope i name b pos) env) Q E s:=by
 rw[arm_exec_ClassDef]
 refine wP<|υ<|wpAny_standAt<|υ<|IS g e<|υ<|wpAny_holding<|υ<|f _ λtk=>υ<|wpAny_standAt<|wpAny_holding ?_
 refine wpAny_mono (h tk) (λv s' κ=>?_) λy y x=>x
 refine wP<|υ<|wpAny_standAt<|υ<|wpAny_bindName<|wpAny_mono κ (λy y x=>ψ x) λy y x=>x
theorem ED{Q:Args->Shared->Prop}(h:∀tk,Q ⟨[],[]⟩ {s with toks:=tk}):
 wpAny M A (evalArgs (.builtin "__build_class__") false (backTo pos<|starEach [] env) []) Q E s:=by
 exact υ<|Calls.spliced_nil<|wP<|wpAny_holding<|wP<|wP<|ψ<|h s.toks
theorem xD{v:Value}{Q:Args->Shared->Prop}(c:starEach [e] env=[(false,eval e env)])
 (d:∀b:Value->Shared->Prop,b v s->wpAny M A (eval e env) b E s) (h:∀tk,Q ⟨[v],[]⟩ {s with toks:=tk}):
 wpAny M A (evalArgs (.builtin "__build_class__") false (backTo pos<|starEach [e] env) []) Q E s:=by
 rw[c]
 show wpAny M A (spliced [(false,eval e env)]>>=_) Q E s
 refine υ<|υ<|d _<|wP<|υ<|wpAny_holding ?_
 exact Calls.spliced_nil<|ψ<|wP<|wpAny_holding<|wP<|wP<|ψ<|h s.toks
structure fA where
 name:Str
 base:Option Expr
 ds:List bx
 scope:Scope
 Tg:Option Scope
 statics:List Str
 pos:Pos
def fA.stmt(k:fA):Stmt:=.ClassDef k.name k.base.toList [] (k.ds.map bx.stmt) [] [] k.scope k.Tg k.name k.statics k.pos
inductive aM
 |e7 (d:bx)
 |cls (k:fA)
 |asg (x:Str) (p:Pos) (value:Expr) (pos:Pos)
def aM.stmt:aM->Stmt
 |.e7 d=>d.stmt
 |.cls k=>k.stmt
 |.asg x p v q=>.Assign [.Name x p] v q
noncomputable def aM.name:aM->Str
 |.e7 d=>d.name
 |.cls k=>k.name
 |.asg x _ _ _=>x
noncomputable def aM.place:aM->Option Pos
 |.e7 d=>some d.pos
 |.cls k=>some k.pos
 |.asg ..=>none
def aM.rr:aM->Bool
 |.cls k=>k.base.elim false λe=>h3 e (λn x=>n==("Exception":Str)) false
 |_=>false
noncomputable def aM.Rl:aM->Bool
 |.cls k=>match k.base with|none=>true|_=>false
 |_=>false
noncomputable def ae4:List (Str×Value)->(Str->Option Value)->(Str->Option Value)
 |[],m=>m
 |(n,v)::r,m=>ae4 r λy=>if y=n then some v else m y
theorem pA(n:Str)(v:Value):∀(l:List<|Str×Value) (m:Str->Option Value),ae4 (l++[(n,v)]) m=λy=>if y=n then some v else ae4 l m y
 |[],_=>rfl
 |(_,_)::r,m=>pA n v r _
theorem iq{y:Str}{v:Value}:∀{l:List<|Str×Value} {m:Str->Option Value},ae4 l m y=some v->(y,v)∈l\/m y=some v
 |[],_,h=>.inr h
 |(n,w)::r,m,h=>by
  rcases iq (l:=r) h with h|h
  ·exact .inl<|.tail _ h
  ·by_cases e:y=n
   ·rw[if_pos e]at h;obtain rfl:=Φ h;exact .inl<|e▸.head _
   ·rw[if_neg e]at h;exact .inr h
inductive dA(aq N:Nat)(h:Heap)(a:Addr)(name:Str)(ds:List bx)(bases mro:List Value)(mk:String):Prop
 |mk (t tq ed ns subs m' dW br:_):h.get? a=some (gy name name t tq bases mro ns mk ed subs)->aq<=a->aq<=ns->ns<a->subs.length<=N->(bases=[.type "object"]->ed=none)->dQ h ns m' (gR dW)->(∀x,dF.contains x=false->m' x=df ds br (λy=>none) x)->
  h7 (λ(d:bx) f=>FnAt (·<aq) h f d.name (name++"."++d.name) d.params d.body d.scope) ds br->dA aq N h a name ds bases mro mk
set_option genCtorIdx false in
inductive oW|str(x:Str)|int(i:Int)|shl(i j:Int)|tup(x:Str)|name(y:Str)
def oW.Is(e:Expr):oW->Prop
 |.str x=>∃k p,e=.Constant (.str x) k p
 |.int i=>∃k p,e=.Constant (.int i) k p
 |.shl i j=>∃k p c b q,e=.BinOp (.Constant (.int i) k p) .LShift (.Constant (.int j) c b) q
 |.tup x=>∃k p q r,e=.Tuple [.Constant (.str x) k p] q r
 |.name y=>∃p,e=.Name y p
abbrev mJ(e:Expr):Type:=Option {c:oW//c.Is e}
def oW.of(e:Expr):mJ e:=
 Ba (P:=mJ) e (λc k p=>aga (C:=λc=>mJ<|.Constant c k p) c (λx=>some ⟨.str x,k,p,rfl⟩)<|afH (C:=λc=>mJ<|.Constant c k p) c (λi=>some ⟨.int i,k,p,rfl⟩) none)<|
 VU (P:=mJ) e (λl o r q=>Ba (P:=λl=>mJ<|.BinOp l o r q) l (λc k p=>afH (C:=λc=>mJ<|.BinOp (.Constant c k p) o r q) c (λi=>
  Ba (P:=λr=>mJ<|.BinOp (.Constant (.int i) k p) o r q) r (λb f d=>afH (C:=λb=>mJ<|.BinOp (.Constant (.int i) k p) o (.Constant b f d) q) b (λj=>
   match o with
   |.LShift=>some ⟨.shl i j,k,p,f,d,q,rfl⟩
   |_=>none) none) none) none) none)<|
 VV (P:=mJ) e (λes q r=>match es with
  |[a]=>Ba (P:=λa=>mJ<|.Tuple [a] q r) a (λc k p=>aga (C:=λc=>mJ<|.Tuple [.Constant c k p] q r) c (λx=>some ⟨.tup x,k,p,q,r,rfl⟩) none) none
  |_=>none)<|
 E0 (P:=mJ) e (λy p=>some ⟨.name y,p,rfl⟩) none
def oW.At(h:Heap)(aq:Nat)(v:Value):oW->Prop
 |.str x=>∃t,v=.str x t
 |.int i=>∃t,v=.int i t
 |.shl i j=>∃t,v=.int (i*2^j.toNat) t
 |.tup x=>∃a t,v=.ref a/\aq<=a/\h.get? a=some {cls:=.type "tuple",data:=.seq #[.str x t]}
 |.name _=>True
def valAt(h:Heap)(aq:Nat)(e:Expr)(v:Value):Prop:=∀c,oW.of e=some c->c.1.At h aq v
def ClsAt(I:List aM)(C:Addr->Str->List bx->List Value->List Value->String->Prop)(a:Addr)(k:fA):Prop:=k.base.elim (C a k.name k.ds [.type "object"] [.ref a,.type "object"] "object.__new__") λe=>h3 e (λn x=>if n="Exception"then C a k.name k.ds [.type "Exception"] [.ref a,.type "Exception",.type "BaseException",.type "object"] "Exception.__new__"else∃B ek,aM.cls ek∈I/\ek.name=n/\ek.base=none/\C B ek.name ek.ds [.type "object"] [.ref B,.type "object"] "object.__new__"/\C a k.name k.ds [.ref B] [.ref a,.ref B,.type "object"] "object.__new__") False
variable {I:List aM}
theorem ClsAt.imp{C c:Addr->Str->List bx->List Value->List Value->String->Prop}{k:fA}(f:∀{a n ds b m s},C a n ds b m s->c a n ds b m s)(x:ClsAt I C a k):ClsAt I c a k:=by
 unfold ClsAt at x⊢
 generalize k.base=o at x⊢
 cases o with
 |none=>exact f x
 |some e=>
  refine Kp (λn p x=>?_) x;by_cases q:n="Exception"
  ·exact(if_pos q).mpr<|f<|(if_pos q).mp x
  ·obtain⟨B,ek,g,h,j,i,d⟩:=(if_neg q).mp x;exact(if_neg q).mpr ⟨B,ek,g,h,j,f i,f d⟩
variable {n:Str}{p:Pos}
theorem ClsAt.sub{C:Addr->Str->List bx->List Value->List Value->String->Prop}{k:fA}(h:k.base=some (.Name n p))(q:n≠"Exception")(x:ClsAt I C a k):∃B ek,aM.cls ek∈I/\ek.name=n/\ek.base=none/\C B ek.name ek.ds [.type "object"] [.ref B,.type "object"] "object.__new__"/\
 C a k.name k.ds [.ref B] [.ref a,.ref B,.type "object"] "object.__new__":=by
 unfold ClsAt at x
 rw[h]at x
 exact(if_neg q).mp x
theorem ClsAt.exc{C:Addr->Str->List bx->List Value->List Value->String->Prop}{k:fA}(h:k.base=some (.Name n p))(q:n="Exception")(x:ClsAt I C a k):C a k.name k.ds [.type "Exception"] [.ref a,.type "Exception",.type "BaseException",.type "object"] "Exception.__new__":=by unfold ClsAt at x;rw[h]at x;exact(if_pos q).mp x
def hI(I:List aM)(aq N:Nat)(h:Heap):aM->Value->Prop
 |.e7 d,v=>∃f,v=.ref f/\aq<=f/\FnAt (·<aq) h f d.name d.name d.params d.body d.scope
 |.cls k,v=>∃a,v=.ref a/\ClsAt I (dA aq N h) a k
 |.asg _ _ e _,v=>valAt h aq e v
structure Keeps(aq:Nat)(h κ:Heap):Prop where
 plain:∀b o,aq<=b->(∀cd,o.data≠.cls cd)->h.get? b=some o->κ.get? b=some o
 cls:∀b name qn t tq bases mro ns mk ed subs,aq<=b->h.get? b=some (gy name qn t tq bases mro ns mk ed subs)->∃xj,xj.length<=subs.length+1/\κ.get? b=some (gy name qn t tq bases mro ns mk ed xj)
variable {aq:Nat}
theorem Keeps.of(k:∀b o,aq<=b->h.get? b=some o->κ.get? b=some o):Keeps aq h κ:=⟨λb o q x e=>k b o q e,λb x x x x x x x x x subs q e=>⟨subs,le_succ _,k b _ q e⟩⟩
theorem Keeps.same{c:Heap}(x:Keeps aq h κ)(k:∀b o,aq<=b->κ.get? b=some o->c.get? b=some o):Keeps aq h c:=⟨λb o q d e=>k b o q<|x.plain b o q d e,λb y y y y y y y y y y q e=>(x.cls b _ _ _ _ _ _ _ _ _ _ q e).elim λsubs f=>f.elim λl g=>⟨subs,l,k b _ q g⟩⟩
theorem Keeps.φ(k:Keeps aq h κ):KK (·<aq) h κ:=λb o n d e=>k.plain b o (Nat.not_lt.mp n) d e
theorem dQ.kept(x:dQ h a m P)(k:Keeps aq h κ)(q:aq<=a):dQ κ a m P:=
 x.keep λo e=>by obtain⟨es,n,b,_⟩:=x;rw[b]at e;obtain rfl:=Φ e;exact k.plain _ _ q (λy z=>nomatch z) b
theorem dA.kept{N:Nat}{name:Str}{ds:List bx}{bases mro:List Value}{mk:String}(x:dA aq N h a name ds bases mro mk)(k:Keeps aq h κ):dA aq (N+1) κ a name ds bases mro mk:=by refine Θ λr=>?_;obtain⟨t,tq,ed,ns,subs,m',dW,br,q,c,b,i,j,e,m,o,n⟩:=x;obtain⟨p,l,g⟩:=k.cls _ _ _ _ _ _ _ _ _ _ _ c q;exact r ⟨t,tq,ed,ns,p,m',dW,br,g,c,b,i,Nat.le_trans l<|Nat.add_le_add_right j 1,e,m.kept k b,o,n.imp λd f x=>x.keeps k.φ⟩
theorem dA.same{N:Nat}{name:Str}{ds:List bx}{bases mro:List Value}{mk:String}(x:dA aq N h a name ds bases mro mk)(k:∀b o,aq<=b->h.get? b=some o->κ.get? b=some o):dA aq N κ a name ds bases mro mk:=by obtain⟨t,tq,ed,ns,subs,m',dW,br,p,e,c,i,j,g,l,n,m⟩:=x;exact⟨t,tq,ed,ns,subs,m',dW,br,k _ _ e p,e,c,i,j,g,l.kept (.of k) c,n,m.imp λd f x=>x.keeps (Keeps.of k).φ⟩
theorem og(x:valAt h aq e v)(k:Keeps aq h κ):valAt κ aq e v:=by
 intro c e
 have y:=x c e
 obtain⟨c,_⟩:=c
 clear x e
 cases c with
 |tup z=>obtain⟨a,t,b,q,g⟩:=y;exact⟨a,t,b,q,k.plain _ _ q (λw z=>nomatch z) g⟩
 |_=>exact y
variable {it:aM}
theorem hI.kept{N:Nat}(x:hI I aq N h it v)(k:Keeps aq h κ):hI I aq (N+1) κ it v:=by
 cases it with
 |e7 d=>obtain⟨f,e,q,x⟩:=x;exact⟨f,e,q,x.keeps k.φ⟩
 |cls c=>obtain⟨a,e,x⟩:=x;exact⟨a,e,x.imp (·.kept k)⟩
 |asg b p e q=>exact og x k
theorem hI.same{N:Nat}(x:hI I aq N h it v)(k:∀b o,aq<=b->h.get? b=some o->κ.get? b=some o):hI I aq N κ it v:=by
 cases it with
 |e7 d=>obtain⟨f,e,q,x⟩:=x;exact⟨f,e,q,x.keeps (Keeps.of k).φ⟩
 |cls c=>obtain⟨a,e,x⟩:=x;exact⟨a,e,x.imp (·.same k)⟩
 |asg g p e q=>exact og x<|.of k
inductive OW(D:List<|aM×Value)(h:Heap):Prop
 |mk (ms:_):h.Ns cStatics ms->(∀x,jI x=false->ms x=none)->((∀x∈D,x.1.rr=false)->∀y,ms y=none)->OW D h
structure eA(prog:Program)(I:List aM)(c cS F:Addr)(aq:Nat)(bU:Str->Option Value)(h0:Heap)(D:List<|aM×Value)(l:List<|Pos×Addr)(h:Heap):Prop where
 main:h.Main (ae4 (D.map λx=>(x.1.name,x.2)) bU) c cS (triples l).toArray
 st:OW D h
 jx:aq<=h.objs.size
 items:∀x∈D,hI I aq D.length h x.1 x.2
 Js:∀q∈l,∃x∈D,x.1.place=some q.1
 keep:∀b o,b<aq->b≠cS->b≠mainGlobals->b≠cStatics->h0.get? b=some o->h.get? b=some o
 alias:∀mL x p y bB pos v rF,D=mL++(aM.asg x p (.Name y bB) pos,v)::rF->ae4 (mL.map λx=>(x.1.name,x.2)) bU y=some v
structure nz(prog:Program)(c cS F:Addr)(aq:Nat)(bU d0:Str->Option Value)(h0:Heap):Prop where
 gm:cS<aq
 c:c<aq
 b:h0.Ns builtinsNs d0
 HX:d0 "__build_class__"=some (.builtin "__build_class__")
 exc:d0 "Exception"=some (.type "Exception")
 three:3<aq
 cst:cStatics≠cS
 A3:builtinsNs≠cS
 XW:bU "Exception"=none
 mod:prog.main.scope.kind=.module
 others:∀x,x∉startupNames->bU x=none
variable {D:List<|aM×Value}{l:List<|Pos×Addr}{cS:Addr}{bU:Str->Option Value}
section
variable {d0:Str->Option Value}
theorem D5{D d f:List α}{a b:α}(e:D++[a]=d++b::f):(f=[]/\d=D/\b=a)\/∃c,f=c++[a]/\D=d++b::c:=by
 rcases eq_nil_or_concat f with rfl|⟨c,x,rfl⟩
 ·have:=List.append_inj' e rfl;exact .inl ⟨rfl,this.1.symm,by simpa using this.2.symm⟩
 ·have:=List.append_inj' (by rw[e];simp:D++[a]=(d++b::c)++[x]) rfl;exact .inr ⟨c,by rw[(by simpa using this.2:a=x)];simp,this.1⟩
theorem mi{name:Str}(b:env.qual="")(c:env.kindOf name=some .local):qualnameIn env name name=name:=by unfold qualnameIn;refine c▸(b▸?_);exact Str.empty_append name
theorem eA.snoc{g:List<|Pos×Addr}(x:eA prog I c cS F aq bU h0 D l h)
 (main:κ.Main (λy=>if y=it.name then some v else ae4 (D.map λx=>(x.1.name,x.2)) bU y) c cS (triples g).toArray) (K:Keeps aq h κ) (item:hI I aq (D.length+1) κ it v)
 (jx:h.objs.size<=κ.objs.size) (B:∀q∈g,q∈l\/it.place=some q.1)
 (st:∃ms,κ.Ns cStatics ms/\(∀x,jI x=false->ms x=none)/\((∀x∈D,x.1.rr=false)->it.rr=false->∀y,ms y=none))
 (keep:∀b o,b<aq->b≠cS->b≠mainGlobals->b≠cStatics->h.get? b=some o->κ.get? b=some o)
 (t:∀x p y bB pos,it=.asg x p (.Name y bB) pos->ae4 (D.map λx=>(x.1.name,x.2)) bU y=some v):eA prog I c cS F aq bU h0 (D++[(it,v)]) g κ where
 main:=by rw[List.map_append,map_cons,map_nil,pA];exact main
 st:=by obtain⟨ms,a,b,d⟩:=st;refine⟨ms,a,b,λq=>d (λx A=>q x<|List.mem_append_left _ A)<|q (it,v)<|List.mem_append_right _<|.head _⟩
 jx:=Nat.le_trans x.jx jx
 items:=λy f=>by
  simp only[Δ,length_cons,length_nil];rcases List.mem_append.mp f with f|f
  ·exact(x.items y f).kept K
  ·obtain rfl:=List.mem_singleton.mp f;exact item
 Js:=λq r=>by
  rcases B q r with e|e
  ·obtain⟨y,f,e⟩:=x.Js q e;exact⟨y,List.mem_append_left _ f,e⟩
  ·exact⟨(it,v),List.mem_append_right _<|.head _,e⟩
 keep:=λb o k m i j e=>keep b o k m i j (x.keep b o k m i j e)
 alias:=λmL w p y bB pos z rF e=>by
  rcases D5 e with⟨_,rfl,s⟩|⟨n,_,u⟩
  ·cases s;exact t _ _ _ _ _ rfl
  ·exact x.alias mL w p y bB pos z n u
theorem eA.free(x:eA prog I c cS F aq bU h0 D l h)(i:∀y∈D,∀q,y.1.place=some q->apart q pos=true):
 codeAmong pos (triples l).toArray.toList=none:=codeAmong_triples _ _ λq d e=>by
 obtain⟨y,g,f⟩:=x.Js q d
 have:=i y g _ f
 simp[apart,e.1,e.2]at this
theorem Ke{d:bx}{Q:Flow->Shared->Prop}(f:nz prog c cS F aq bU d0 h0)(x:eA prog I c cS F aq bU h0 D l s.heap)
 (N:d.ok=true) (t:prog.main.scope.names.lookup d.name=some .local) (M:d.name≠"__builtins__") (J:∀y∈D,∀q,y.1.place=some q->apart q d.pos=true)
 (h:∀v K κ tk,eA prog I c cS F aq bU h0 (D++[(.e7 d,v)]) K κ->Q .next {s with heap:=κ,toks:=tk}):
 wpAny (model prog w) A (exec d.stmt<|mainEnv prog c F) Q E s:=by
 have G:=bx.good N
 refine wpAny_defStmt0 G.kw G.i4 G.const (G.ann _) G.free t (mi rfl t) x.main ?_ M f.mod<|x.free J
 intro a p doc O vs κ tk m u r j n B k
 have e:((triples l).toArray++#[rawInt d.pos.line,rawInt d.pos.col,Value.ref p])=(triples<|l++[(d.pos,p)]).toArray:=by simp[triples_append]
 rw[e]at u
 refine h (.ref a) _ κ tk (x.snoc u (.of λb o q e=>k b o ((λb q e=>Nat.lt_irrefl _ (Nat.lt_of_lt_of_le f.gm<|e▸q):∀b,aq<=b->b≠cS) b q) ((λb q e=>by subst e;exact absurd f.three (fF q):∀b,aq<=b->b≠mainGlobals) b q) e) ⟨a,rfl,(Nat.le_trans x.jx m),?_⟩ (Nat.le_trans m<|Nat.le_of_lt<|lt_size r) (λq i=>?_) ?_ (λb o X P C X e=>k b o P C e) λX X X X X z=>nomatch z)
 ·refine⟨O,_,p,doc,vs,r,fF<|Nat.le_trans x.jx m,fF<|Nat.le_trans x.jx B.1,B.2,j,?_⟩;rcases n with n|⟨a1,T,e,H,g⟩
  ·exact .inl n
  ·exact .inr ⟨a1,T,e,fF<|Nat.le_trans x.jx H,g⟩
 ·rcases List.mem_append.mp i with i|i
  ·exact .inl i
  ·obtain rfl:=List.mem_singleton.mp i;exact .inr rfl
 ·obtain⟨ms,a1,a2,L⟩:=x.st;exact⟨ms,a1.at λo e=>k _ _ f.cst (of_decide_eq_true rfl) e,a2,λq X=>L q⟩
end
section
variable {d0:Str->Option Value}
theorem l3:∀(ds:List bx),hasAnns (ds.map bx.stmt)=false
 |[]=>rfl
 |d::ds=>by refine(?_:(hasAnn d.stmt||hasAnns (ds.map bx.stmt))=false);rw[l3 ds];rfl
theorem rO:∀(ds:List bx),docOf (ds.map bx.stmt)=none
 |[]=>rfl
 |_::_=>rfl
def kI(k:fA):Bool:=decide (k.scope.kind=.class)&&!(k.scope.names.lookup ("__class__":Str)==some NameKind.cell)&&!(k.scope.names.lookup ("__classdict__":Str)==some NameKind.cell)&&(["__name__","__module__","__qualname__","__firstlineno__","__static_attributes__"]:List Str).all (λn=>(k.scope.names.lookup n).isNone)&&k.ds.all (λd=>d.ok&&decide (k.scope.names.lookup d.name=some .local)&&!ia.contains d.name)&&k.scope.names.all (λx=>x.2!=.free)&&!(k.name.cps.any λc=>0xD800<=c&&c<=0xDFFF)&&!k.name.cps.contains 0&&decide (k.ds.length<=500)&&decide (k.ds.Pairwise λd e=>apart d.pos e.pos=true)
structure Mg(k:fA):Prop where
 kind:k.scope.kind=.class
 ff:(k.scope.names.lookup ("__class__":Str)==some NameKind.cell)=false
 lg:(k.scope.names.lookup ("__classdict__":Str)==some NameKind.cell)=false
 x:∀n∈(["__name__","__module__","__qualname__","__firstlineno__","__static_attributes__"]:List Str),k.scope.names.lookup n=none
 ds:∀d∈k.ds,d.ok=true/\k.scope.names.lookup d.name=some .local
 nm:∀d∈k.ds,ia.contains d.name=false
 free:∀x∈k.scope.names,x.2≠.free
 S4:(k.name.cps.any λc=>0xD800<=c&&c<=0xDFFF)=false
 Zq:k.name.cps.contains 0=false
 len:k.ds.length<=500
 YO:k.ds.Pairwise λd e=>apart d.pos e.pos=true
theorem qe{k:fA}(h:kI k=true):Mg k:=by
 unfold kI at h;simp only[Bool.and_eq_true,Bool.not_eq_true',decide_eq_true_eq]at h;obtain⟨⟨⟨⟨⟨⟨⟨⟨⟨a,b⟩,c⟩,d⟩,e⟩,f⟩,g⟩,i⟩,j⟩,o⟩:=h;refine⟨a,b,c,λn m=>?_,λd l=>?_,λd l=>?_,λx p=>?_,g,i,j,o⟩
 ·have:=List.all_eq_true.mp d n m;simpa using this
 ·have:=List.all_eq_true.mp e d l;simp only[Bool.and_eq_true,decide_eq_true_eq]at this;exact this.1
 ·have:=List.all_eq_true.mp e d l;simp only[Bool.and_eq_true,Bool.not_eq_true']at this;exact this.2
 ·have:=List.all_eq_true.mp f x p;simpa using this
theorem my(h:∀x∈scope.names,x.2≠.free):closureFor scope env=pure []:=by
 dsimp only[closureFor]
 rw[forIn_yield_id [] (λx b c=>by
  have:(x.2==NameKind.free)=false:=by simpa using h _ b
  simp only[this,Bool.false_eq_true,if_false])]
 rfl
theorem uo{k:fA}{p:Addr}{d:Heap}{Q:Flow->Shared->Prop}(f:nz prog c cS F aq bU d0 h0)(x:eA prog I c cS F aq bU h0 D l s.heap)
 (R:prog.main.scope.names.lookup k.name=some .local) (W:k.name≠"__builtins__") (K:Keeps aq s.heap d) (r:∀b o,b<aq->b≠cS->b≠cStatics->s.heap.get? b=some o->d.get? b=some o)
 (B:d.IsCode c cS<|(triples l).toArray++#[rawInt k.pos.line,rawInt k.pos.col,.ref p]) (item:hI I aq (D.length+1) d (.cls k)<|.ref a) (T:s.heap.objs.size<=d.objs.size)
 (st:∃ms,d.Ns cStatics ms/\(∀x,jI x=false->ms x=none)/\((∀x∈D,x.1.rr=false)->(aM.cls k).rr=false->∀y,ms y=none))
 (h:∀v P κ tk,eA prog I c cS F aq bU h0 (D++[(.cls k,v)]) P κ->Q .next {s with heap:=κ,toks:=tk}):
 wpAny (model prog w) A (storeName (mainEnv prog c F) k.name<|.ref a) (λα Z=>Q .next Z) E {s with heap:=d,toks:=tk}:=by
 refine wpAny_storeName_local R (x.main.g.at λo e=>r _ _ f.three (ne_of_lt x.main.low.2) (of_decide_eq_true rfl) e:d.Ns mainGlobals<|ae4 (D.map λx=>(x.1.name,x.2)) bU) (λκ X g=>?_) (by show(prog.main.scope.kind==.class||(prog.main.scope.kind==.module&&mainGlobals !=mainGlobals))=false;rw[f.mod];rfl)
 have e:((triples l).toArray++#[rawInt k.pos.line,rawInt k.pos.col,Value.ref p])=(triples<|l++[(k.pos,p)]).toArray:=by simp[triples_append]
 rw[e]at B
 have L:∀b,aq<=b->b≠mainGlobals:=λb q e=>by subst e;exact absurd f.three<|fF q
 obtain⟨bm,o,V,U,G,C,t,u⟩:=A2 x.main.bmod
 have H:∀b o,aq<=b->d.get? b=some o->κ.get? b=some o:=λb o q e=>(g.2 _<|L b q).trans e
 have J:=K.same H
 have j:bm≠cStatics:=by obtain⟨ms,a1,_⟩:=x.st;obtain⟨bu,es,n,m,Y,_⟩:=a1;exact R1 t m λz=>nomatch u.2.2.symm.trans (z.trans Y)
 have M:d.get? bm=some o:=by
  by_cases q:aq<=bm
  ·refine K.plain _ _ q (λcd e=>?_) t;replace e:=u.2.2▸e;cases e
  ·exact r _ _ (Nat.not_le.mp q) C j t
 refine h (.ref a) _ κ _ (x.snoc ⟨X,B.sameBut g (Nat.ne_of_gt x.main.low.1)<|Nat.ne_of_gt x.main.low.2,x.main.low,⟨bm,o,?_,U,G,C,(g.2 _ G).trans M,u⟩⟩ J (item.same H)
  (by rw[g.1];exact T) (λq i=>?_) ?_ (λb o d μ N O e=>(g.2 _ N).trans<|r _ _ d μ O e) (λα α α α α z=>nomatch z))
 ·show(if"__builtins__"=k.name then _ else _)=_;exact(if_neg<|Ne.symm W)▸V
 ·rcases List.mem_append.mp i with i|i
  ·exact .inl i
  ·obtain rfl:=List.mem_singleton.mp i;exact .inr rfl
 ·obtain⟨ms,a1,a2,S⟩:=st;exact⟨ms,a1.sameBut g (show cStatics≠mainGlobals by decide),a2,S⟩
end
section
variable {d0:Str->Option Value}
theorem Tj:jI "sys.recursionlimit"=false:=by decide
theorem zT:jI "thirdparty.any"=false:=by decide
theorem wo(B:Addr):jI (Builtin.mroTurnedKey B)=false:=by
 have e:(Builtin.mroTurnedKey B).cps.toList=cpsOfBytes 0 0 ((toString "class.mro-hook.turned:").toByteArray.data.toList++(Nat.repr B).toByteArray.data.toList):=by unfold Builtin.mroTurnedKey;simp[Str.ofString]
 have c:(toString "class.mro-hook.turned:").toByteArray.data.toList=[99,108,97,115,115,46,109,114,111,45,104,111,111,107,46,116,117,114,110,101,100,58]:=by decide+kernel
 have d:("type.__subclasses__.":Str).cps.toList=[116,121,112,101,46,95,95,115,117,98,99,108,97,115,115,101,115,95,95,46]:=by decide+kernel
 have f:("type.__subclasses__.":Str).cps.size=20:=by decide+kernel
 cases h:jI (Builtin.mroTurnedKey B)with
 |false=>rfl
 |true=>have b:=congrArg Array.toList<|beq_iff_eq.mp h;rw[Array.toList_extract]at b;exact absurd (show(some 99:Option Nat)=some 116 from(congrArg head? b))<|of_decide_eq_true rfl
theorem eA.limit(x:eA prog I c cS F aq bU h0 D l h):h.NoLimit:=by obtain⟨ms,a1,a2,_⟩:=x.st;exact⟨ms,a1,a2 _ Tj⟩
theorem G7{k:fA}{Q:Flow->Shared->Prop}(f:nz prog c cS F aq bU d0 h0)(x:eA prog I c cS F aq bU h0 D l s.heap)
 (B:k.base=none) (X:kI k=true) (z:prog.main.scope.names.lookup k.name=some .local) (V:k.name≠"__builtins__") (M:∀y∈D,∀q,y.1.place=some q->apart q k.pos=true)
 (i:∃C H,ae4 (D.map λx=>(x.1.name,x.2)) bU "__name__"=some (.str C H)) (U:A.depth<recursionLimit)
 (h:∀v P κ tk,eA prog I c cS F aq bU h0 (D++[(.cls k,v)]) P κ->Q .next {s with heap:=κ,toks:=tk}):
 wpAny (model prog w) A (exec k.stmt<|mainEnv prog c F) Q E s:=by
 refine Θ λφ=>?_
 obtain⟨C,H,i⟩:=i
 obtain⟨ms,r,u,R⟩:=x.st
 refine φ ?_
 unfold fA.stmt
 refine B▸(uk (f.b.at λo e=>x.keep _ _ (Nat.lt_trans (show(0:Nat)<3 by decide) f.three) f.A3 (by decide) (by decide) e) f.HX (λe4 h=>ED h) λtk=>?_)
 refine Eq.symm (mi (env:=mainEnv prog c F) rfl z)▸?_
 have j:=Nat.lt_of_lt_of_le (Nat.lt_trans (show(1:Nat)<3 by decide) f.three) x.jx
 have G:=qe X
 refine xI (k:=.obj) j G.ff G.lg rfl rfl x.main.code (x.free M) x.main.g x.main.bmod (ne_of_lt x.main.low.2) (my G.free) x.limit U f.cst G.kind (G.x _<|by decide) rfl (l3 _) (rO _) G.ds G.YO rfl (G.x _<|by decide) (G.x _<|by decide) (G.x _<|by decide) (G.x _<|by decide) i G.nm G.S4 G.Zq r (u _ zT) trivial id id (λα α=>trivial) G.len ?_
 intro a ns κ nr m' S N dB n₁ t tq eu aX O T W g Y _ J n p L
 replace g:=λb o q=>g b o q id
 have K:∀b,aq<=b->b≠cS:=λb q e=>Nat.lt_irrefl _<|Nat.lt_of_lt_of_le f.gm<|e▸q
 have m:=Nat.le_trans x.jx J
 refine uo f x z V (.of λb o q e=>g b o (K b q) e) (λb o α Z α e=>g b o Z e) Y ⟨a,rfl,?_⟩ ?_ ⟨ms,r.at λo e=>g _ _ f.cst e,u,λq α=>R q⟩ h
 ·delta ClsAt;rw[B];exact⟨t,tq,none,ns,[],m',S,N,aX,Nat.le_trans (Nat.le_trans m n)<|Nat.le_of_lt p,(Nat.le_trans m n),p,zero_le _,λα=>rfl,O,T,W.imp λd f x=>x.mono λb q=>Nat.lt_of_lt_of_le q m⟩
 ·exact Nat.le_trans J<|Nat.le_trans n<|Nat.le_trans (Nat.le_of_lt p)<|Nat.le_of_lt L
end
section
variable {d0:Str->Option Value}
theorem uI(d:prog.main.scope.kind=.module)(f:s.heap.Ns mainGlobals cJ)(e:s.heap.Ns builtinsNs d0)(b:cJ x=some v\/(cJ x=none/\d0 x=some v))(h:Q v s):
 wpAny (model prog w) A (loadName (mainEnv prog c F) x) Q E s:=by
 unfold loadName
 refine(by show prog.main.scope.kind.isAnnotationScope=false;rw[d];rfl:(mainEnv prog c F).scope.kind.isAnnotationScope=false)▸?_
 refine(by unfold Env.blockKind;rw[(by show prog.main.scope.kind.isAnnotationScope=false;rw[d];rfl:(mainEnv prog c F).scope.kind.isAnnotationScope=false)];exact d:(mainEnv prog c F).blockKind=.module)▸(υ<|wpAny_nsGet f ?_)
 rcases b with b|⟨g,b⟩
 ·rw[b];exact ψ h
 ·rw[g];refine υ<|wpAny_nsGet e ?_;exact b▸(ψ h)
theorem A7{c P B:Addr}(x:h.IsCode c P ps)(d:h.get? B=some o)(f:∀vs,o.data≠.fields vs):c≠B:=λe=>by obtain⟨bu,vs,_,_,_,_,_,_,_,_,b,q,_⟩:=x;exact f vs<|Φ (b.symm.trans<|(congrArg h.get? e).trans d)▸q
theorem G9{k:fA}{S:Pos}{Q:Flow->Shared->Prop}(f:nz prog c cS F aq bU d0 h0)(x:eA prog I c cS F aq bU h0 D l s.heap)
 (m:k.base=some (.Name "Exception" S)) (T:∀x∈D,x.1.name≠"Exception") (g:∀x∈D,x.1.rr=false) (ok:kI k=true) (H:prog.main.scope.names.lookup k.name=some .local) (mc:k.name≠"__builtins__") (Z:∀y∈D,∀q,y.1.place=some q->apart q k.pos=true)
 (n:∃K L,ae4 (D.map λx=>(x.1.name,x.2)) bU "__name__"=some (.str K L)) (jj:A.depth<recursionLimit)
 (h:∀v cO κ tk,eA prog I c cS F aq bU h0 (D++[(.cls k,v)]) cO κ->Q .next {s with heap:=κ,toks:=tk}):
 wpAny (model prog w) A (exec k.stmt<|mainEnv prog c F) Q E s:=by
 refine Θ λφ=>?_
 have G:=qe ok
 obtain⟨K,L,n⟩:=n
 obtain⟨ms,C,cw,j⟩:=x.st
 refine φ ?_
 unfold fA.stmt
 refine m▸?_
 have N:=f.b.at λo e=>x.keep _ _ (Nat.lt_trans (show(0:Nat)<3 by decide) f.three) f.A3 (by decide) (by decide) e
 have rm:ae4 (D.map λx=>(x.1.name,x.2)) bU "Exception"=none:=by
  cases Y:ae4 (D.map λx=>(x.1.name,x.2)) bU "Exception"with
  |none=>rfl
  |some v=>
   rcases iq Y with q|q
   ·obtain⟨y,W,e⟩:=List.mem_map.mp q;exact absurd (congrArg Prod.fst e)<|T y W
   ·rw[f.XW]at q;cases q
 refine uk N f.HX (λe4 h=>xD rfl (λZQ κ=>wpAny_Name<|uI f.mod x.main.g N (.inr ⟨rm,f.exc⟩) κ) h) λtk=>(Eq.symm (mi (env:=mainEnv prog c F) rfl H)▸?_)
 have p:=Nat.lt_of_lt_of_le (Nat.lt_trans (show(1:Nat)<3 by decide) f.three) x.jx
 refine xI (k:=.exc) p G.ff G.lg rfl rfl x.main.code (x.free Z) x.main.g x.main.bmod (ne_of_lt x.main.low.2) (my G.free) x.limit jj f.cst G.kind (G.x _<|by decide) rfl (l3 _) (rO _) G.ds G.YO rfl (G.x _<|by decide) (G.x _<|by decide) (G.x _<|by decide) (G.x _<|by decide) n G.nm G.S4 G.Zq C (j g _) (j g) (λe=>f.cst<|Eq.symm e) (C.elim λbu z=>z.elim λα z=>z.elim λα z=>A7 x.main.code z.1 λα q=>nomatch z.2.1.symm.trans q) (λα α=>j g) G.len ?_
 rintro a ns κ nr m' dW br dB n₁ t tq eu aX c7 e8 nc J zi ⟨O,U,i⟩ M u B R
 have P:∀b,aq<=b->b≠cS:=λb q e=>Nat.lt_irrefl _<|Nat.lt_of_lt_of_le f.gm<|e▸q
 have V:∀b,aq<=b->b≠cStatics:=λb q e=>by subst e;exact absurd (Nat.lt_trans (show(2:Nat)<3 by decide) f.three)<|fF q
 have r:=Nat.le_trans x.jx M
 refine uo f x H mc (.of λb o q e=>J b o (P b q) (V b q) e) (λb o α μ X e=>J b o μ X e) zi ⟨a,rfl,?_⟩ ?_ ⟨O,U,i,λα q=>?_⟩ h
 ·delta ClsAt;rw[m];exact⟨t,tq,_,ns,[],m',dW,br,aX,Nat.le_trans (Nat.le_trans r u)<|Nat.le_of_lt B,(Nat.le_trans r u),B,zero_le _,(λe=>nomatch e),c7,e8,nc.imp λd f x=>x.mono λb q=>Nat.lt_of_lt_of_le q r⟩
 ·exact Nat.le_trans M<|Nat.le_trans u<|Nat.le_trans (Nat.le_of_lt B)<|Nat.le_of_lt R
 ·have cp:(aM.cls k).rr=true:=by unfold aM.rr;dsimp only;refine m▸?_;rfl
  replace q:=cp▸q;exact acN q
theorem yl{y:Str}:∀{l:List<|Str×Value} {m:Str->Option Value},(n,v)∈l->n=y->∃w,ae4 l m y=some w:=by
 have b:∀(l:List<|Str×Value) (m:Str->Option Value) (w:Value),m y=some w->∃w,ae4 l m y=some w:=by
  intro l
  induction l with
  |nil=>exactλm w h=>⟨w,h⟩
  |cons x r c=>
   intro m w h;obtain⟨n,v⟩:=x;by_cases e:y=n
   ·exact c _ v<|if_pos e
   ·exact c _ w<|(if_neg e).trans h
 intro l
 induction l with
 |nil=>exactλh=>nomatch h
 |cons x r c=>
  intro m h e;obtain⟨d,f⟩:=x;rcases ae6 h with h|h
  ·obtain⟨rfl,rfl⟩:=Prod.mk.inj h;exact b r _ v<|if_pos e.symm
  ·exact c h e
noncomputable def Px{α:Type}(o:Obj)(d:α)(f:ClassData->α):α:=o.data.casesOn d (λx=>d) (λx x=>d) (λx x=>d) (λx x x=>d) (λx x=>d) (λx=>d) (λx=>d) f (λx=>d) d
def NX(o:Obj)(l:List Value):Obj:=Px o o λc=>{o with data:=.cls {c with subclasses:=l}}
def M1(o:Obj):List Value:=Px o [] (·.subclasses)
theorem Rz{aq:Nat}{m:Addr}{r i:Str}{s p:Tok}{bs g c:List Value}{ed:Option Value}{mk:String}(k:h.get? B=some (gy r i s p bs g m mk ed c))
 (l:∀b o,aq<=b->b≠B->h.get? b=some o->κ.get? b=some o) (A:κ.get? B=some (gy r i s p bs g m mk ed<|c++[v])):Keeps aq h κ:=
 ⟨λb o q d e=>l b o q (λf=>d _<|congrArg Obj.data<|Φ<|(f▸e).symm.trans k) e,λb n C D t u x ns z w y q e=>by
  by_cases f:b=B
  ·have j:=Φ<|k.symm.trans<|f▸e;refine⟨c++[v],?_,f▸A.trans (congrArg (λo=>some<|NX o<|c++[v]) j)⟩;rw[Δ];exact Nat.le_of_eq<|congrArg (λo=>(M1 o).length+1) j
  ·exact⟨y,le_succ _,l b _ q f e⟩⟩
theorem G8{k:fA}{N:Pos}{g:Str}{Q:Flow->Shared->Prop}(f:nz prog c cS F aq bU d0 h0)(x:eA prog I c cS F aq bU h0 D l s.heap)
 (eQ:k.base=some (.Name g N)) (mb:g≠"Exception") (Qw:(g==("__debug__":Str))=false) (Yo:starEach [Expr.Name g N] (mainEnv prog c F)=[(false,eval (.Name g N)<|mainEnv prog c F)]) (Bt:bU g=none) (IU:∀x∈D,x.1.name=g->x.1.Rl=true) (hex:∃x∈D,x.1.name=g) (u:D.length<=900) (ji:∀x∈D,x.1∈I)
 (ok:kI k=true) (dZ:prog.main.scope.names.lookup k.name=some .local) (mc:k.name≠"__builtins__") (bq:∀y∈D,∀q,y.1.place=some q->apart q k.pos=true)
 (Fx:∀x∈D,∀nX,x.1=.cls nX->kI nX=true)
 (U:∃oA oB,ae4 (D.map λx=>(x.1.name,x.2)) bU "__name__"=some (.str oA oB)) (jj:A.depth<recursionLimit)
 (h:∀v cO κ tk,eA prog I c cS F aq bU h0 (D++[(.cls k,v)]) cO κ->Q .next {s with heap:=κ,toks:=tk}):
 wpAny (model prog w) A (exec k.stmt<|mainEnv prog c F) Q E s:=by
 refine Θ λM=>?_
 have G:=qe ok
 obtain⟨oA,oB,U⟩:=U
 obtain⟨ms,bD,H,dN⟩:=x.st
 have yt:=f.b.at λo e=>x.keep _ _ (Nat.lt_trans (show(0:Nat)<3 by decide) f.three) f.A3 (by decide) (by decide) e
 obtain⟨v,bR⟩:∃v,ae4 (D.map λx=>(x.1.name,x.2)) bU g=some v:=by obtain⟨y,i,e⟩:=hex;exact yl (List.mem_map.mpr ⟨y,i,rfl⟩) e
 obtain⟨y,i,O,WE⟩:∃y∈D,y.1.name=g/\y.2=v:=by
  rcases iq bR with q|q
  ·obtain⟨y,i,e⟩:=List.mem_map.mp q;exact⟨y,i,congrArg Prod.fst e,congrArg Prod.snd e⟩
  ·rw[Bt]at q;cases q
 have dc:=x.items y i
 have j:=IU y i O
 obtain⟨it,oc⟩:=y
 dsimp only at O WE dc j
 subst WE
 cases it with
 |e7 d=>cases j
 |asg _ _ _ _=>cases j
 |cls ek=>
  have Wn:ek.base=none:=by
   unfold aM.Rl at j
   cases h:ek.base with
   |none=>rfl
   |some e=>dsimp only at j;rw[h]at j;cases j
  have S:=qe<|Fx _ i _ rfl;obtain⟨B,rfl,cf⟩:=dc;delta ClsAt at cf;rw[Wn]at cf;replace cf:dA _ _ _ _ _ _ _ _ _:=cf;have R:=cf;obtain⟨sg,p8,aeu,oK,z,X,SB,aef,J,L,XI,CB,p,P,r,T,aeR⟩:=cf;obtain rfl:=P rfl;have C:∀b,aq<=b->b≠cS:=λb q e=>Nat.lt_irrefl _<|Nat.lt_of_lt_of_le f.gm<|e▸q;have X0:∀b,aq<=b->b≠cStatics:=λb q e=>by subst e;exact absurd (Nat.lt_trans (show(2:Nat)<3 by decide) f.three)<|fF q
  have m:∀n:Str,ia.contains n=true->dF.contains n=false->X n=none:=λn η Z=>by rw[T n Z];exact kj λd hd e=>by have:=S.nm d hd;replace this:=e▸this;replace this:=η▸this;exact acN this
  refine M ?_;unfold fA.stmt;refine eQ▸(uk yt f.HX (λe4 h=>xD Yo (λZQ κ=>wpAny_Name (uI f.mod x.main.g yt (.inl bR) κ) Qw) h) λtk=>?_);refine Eq.symm (mi (env:=mainEnv prog c F) rfl dZ)▸?_;have W:=Nat.lt_of_lt_of_le (Nat.lt_trans (show(1:Nat)<3 by decide) f.three) x.jx;refine xI (k:=.sub B oK _ _ _ _ z) W G.ff G.lg rfl rfl x.main.code (x.free bq) x.main.g x.main.bmod (ne_of_lt x.main.low.2) (my G.free) x.limit jj f.cst G.kind (G.x _<|by decide) rfl (l3 _) (rO _) G.ds G.YO rfl (G.x _<|by decide) (G.x _<|by decide) (G.x _<|by decide) (G.x _<|by decide) U G.nm G.S4 G.Zq bD (H _ zT) ⟨H _<|wo B,J,⟨X,_,r,m _ (by decide) (by decide),m _ (by decide) (by decide),m _ (by decide)<|by decide⟩,Nat.le_trans p u⟩ (λe=>C _ L<|Eq.symm e) (A7 x.main.code J λα q=>nomatch q) (λκ M=>⟨H _<|wo B,M _ _ (C _ L) J,⟨X,_,r.keep λo e=>M _ _ (C _ XI) e,m _ (by decide) (by decide),m _ (by decide) (by decide),m _ (by decide)<|by decide⟩,Nat.le_trans p u⟩) G.len ?_;intro a ns κ nr m' dW br dB n₁ t tq eu aX c7 e8 nc V zi SA wV wW Y Gx;have ru:=Nat.le_trans x.jx wV;have na:=Nat.le_trans ru wW;have K:=Rz J (λb o q=>V b o<|C b q) SA;refine uo f x dZ mc K (λb o q Z α e=>V b o Z (λab=>by rw[ab]at q;exact absurd q<|fF L) e) zi ⟨a,rfl,?_⟩ ?_ ⟨ms,bD.at λo e=>V _ _ f.cst (Ne.symm<|X0 _ L) e,H,λq α=>dN q⟩ h
  ·delta ClsAt;rw[eQ];refine(if_neg mb).mpr ⟨B,ek,ji _ i,O,Wn,R.kept K,?_⟩;exact⟨t,tq,_,ns,[],m',dW,br,aX,Nat.le_trans na<|Nat.le_of_lt Y,na,Y,zero_le _,(λe=>nomatch e),c7,e8,nc.imp λd f x=>x.mono λb q=>Nat.lt_of_lt_of_le q ru⟩
  ·exact Nat.le_trans wV<|Nat.le_trans wW<|Nat.le_trans (Nat.le_of_lt Y)<|Nat.le_of_lt Gx
end
section
variable {d0:Str->Option Value}
def oW.ok(D:List aM):oW->Bool
 |.shl i j=>decide (0<=j)&&decide (j<=1000000)&&decide (i.natAbs<2^64)
 |.name y=>D.any (λit=>it.name==y)&&!(y==("__debug__":Str))
 |_=>true
def sx(D:List aM)(e:Expr):Bool:=match oW.of e with
 |some c=>c.1.ok D
 |none=>false
theorem vq{D:List aM}(h:sx D e=true):∃c:oW,c.Is e/\c.ok D=true:=by
 unfold sx at h
 cases b:oW.of e with
 |none=>rw[b]at h;cases h
 |some c=>rw[b]at h;exact⟨c.1,c.2,h⟩
theorem IE{value:Expr}(t:prog.main.scope.kind=.module)(q:s.heap.Ns mainGlobals<|ae4 (D.map λx=>(x.1.name,x.2)) bU)(m:s.heap.Ns builtinsNs d0)(n:aq<=s.heap.objs.size)
 (d:sx (D.map (·.1)) value=true)
 (h:∀v κ tk,valAt κ aq value v->(∀y p,value=.Name y p->ae4 (D.map λx=>(x.1.name,x.2)) bU y=some v)->(∀b o,s.heap.get? b=some o->κ.get? b=some o)->s.heap.objs.size<=κ.objs.size->Q v {s with heap:=κ,toks:=tk}):
 wpAny (model prog w) A (eval value<|mainEnv prog c F) Q E s:=by
 refine Θ λg=>?_
 obtain⟨c,f,d⟩:=vq d
 cases c with
 |str x=>obtain⟨_,_,rfl⟩:=f;refine g ?_;exact wpAny_mkText<|h _ _ _ (λc e=>by obtain rfl:=Φ e;exact⟨_,rfl⟩) (λX X e=>nomatch e) (λX X e=>e)<|Nat.le_refl _
 |int i=>obtain⟨_,_,rfl⟩:=f;refine g ?_;exact wpAny_mkInt<|h _ _ _ (λc e=>by obtain rfl:=Φ e;exact⟨_,rfl⟩) (λX X e=>nomatch e) (λX X e=>e)<|Nat.le_refl _
 |shl i j=>obtain⟨_,_,_,_,_,rfl⟩:=f;replace d:(decide (0<=j)&&decide (j<=1000000)&&decide (i.natAbs<2^64))=true:=d;simp only[Bool.and_eq_true,decide_eq_true_eq]at d;refine g<|wpAny_BinOp ?_;refine wpAny_Constant_int<|wpAny_Constant_int ?_;exact lshift_int_small d.1.1 d.1.2 d.2<|h _ _ _ (λc e=>by obtain rfl:=Φ e;exact⟨_,rfl⟩) (λX X e=>nomatch e) (λX X e=>e)<|Nat.le_refl _
 |tup x=>obtain⟨_,_,_,_,rfl⟩:=f;refine g<|υ<|wpAny_standAt<|υ ?_;refine Calls.spliced_cons<|wpAny_mkText<|Calls.spliced_nil ?_;refine wpAny_newTuple (h _ _ _ (λc e=>by obtain rfl:=Φ e;exact⟨_,_,rfl,n,get?_push_size _ rfl⟩) (λX X e=>nomatch e) (λX X e=>get?_push_of_some _ e) (by rw[Heap.size_push];exact le_succ _)) (by show 1<=sizeLine;rw[sizeLine_eq];exact(eB 0x100e100000078118 [] ι))
 |name y=>obtain⟨p,rfl⟩:=f;replace d:((D.map (·.1)).any (λit=>it.name==y)&&!(y==("__debug__":Str)))=true:=d;simp only[Bool.and_eq_true,Bool.not_eq_true',List.any_eq_true]at d;obtain⟨⟨it,k,e⟩,r⟩:=d;obtain⟨x,u,rfl⟩:=List.mem_map.mp k;obtain⟨v,l⟩:∃v,ae4 (D.map λx=>(x.1.name,x.2)) bU y=some v:=yl (List.mem_map.mpr ⟨x,u,rfl⟩)<|beq_iff_eq.mp e;refine g<|wpAny_Name (uI t q m (.inl l) ?_) r;refine h v s.heap s.toks (λc e=>by obtain rfl:=Φ e;trivial) (λz B e=>?_) (λX X e=>e)<|Nat.le_refl _;cases e;exact l
theorem Kd{d:Str}{value:Expr}{Q:Flow->Shared->Prop}(f:nz prog c cS F aq bU d0 h0)(x:eA prog I c cS F aq bU h0 D l s.heap)
 (t:sx (D.map (·.1)) value=true) (N:prog.main.scope.names.lookup d=some .local) (U:d≠"__builtins__")
 (h:∀v K κ tk,eA prog I c cS F aq bU h0 (D++[(.asg d p value pos,v)]) K κ->Q .next {s with heap:=κ,toks:=tk}):
 wpAny (model prog w) A (exec (.Assign [.Name d p] value pos)<|mainEnv prog c F) Q E s:=by
 obtain⟨ms,H,L,M⟩:=x.st
 obtain⟨bm,o,T,S,r,R,O,P⟩:=A2 x.main.bmod
 have k:swapsWith value (some<|.Name d p) pos.line (mainEnv prog c F)=pure false:=by
  obtain⟨c,i,_⟩:=vq t
  cases c with
  |str|int=>obtain⟨_,_,rfl⟩:=i;rfl
  |shl=>obtain⟨_,_,_,_,_,rfl⟩:=i;rfl
  |tup=>obtain⟨_,_,_,_,rfl⟩:=i;rfl
  |name=>obtain⟨_,rfl⟩:=i;rfl
 refine wpAny_Assign_Name (IE f.mod x.main.g (f.b.at λo e=>x.keep _ _ (Nat.lt_trans (show(0:Nat)<3 by decide) f.three) f.A3 (by decide) (by decide) e) x.jx t ?_) k
 intro v W tk z u j J
 refine wpAny_storeName_local N (x.main.g.at λo e=>j _ _ e) (λκ V g=>?_) (by show(prog.main.scope.kind==.class||(prog.main.scope.kind==.module&&mainGlobals !=mainGlobals))=false;rw[f.mod];rfl)
 have m:∀b o,b≠mainGlobals->s.heap.get? b=some o->κ.get? b=some o:=λb o q e=>(g.2 _ q).trans<|j _ _ e
 have n:∀b,aq<=b->b≠mainGlobals:=λb q e=>by subst e;exact absurd f.three<|fF q
 refine h v l κ _ (x.snoc ⟨V,(jD x.main.code j).sameBut g (Nat.ne_of_gt x.main.low.1)<|Nat.ne_of_gt x.main.low.2,x.main.low,⟨bm,o,?_,S,r,R,m _ _ r O,P⟩⟩
  (.of λb o q e=>m b o (n b q) e) (og z<|.of λb o q e=>(g.2 _<|n b q).trans e) (by rw[g.1];exact J) (λq B=>.inl B) ?_ (λb o W μ G Y e=>m b o G e) λZ hQ y X C e=>?_)
 ·show(if"__builtins__"=d then _ else _)=_;rw[if_neg<|Ne.symm U];exact T
 ·exact⟨ms,(H.at λo e=>j _ _ e).sameBut g (show cStatics≠mainGlobals by decide),L,λq α=>M q⟩
 ·cases e;exact u _ _ rfl
end
section
variable {d0:Str->Option Value}
theorem pz{y:Str}:∀{l:List<|Str×Value} {m:Str->Option Value} {w:Value},m y=some w->∃w,ae4 l m y=some w
 |[],m,w,h=>⟨w,h⟩
 |(n,v)::r,m,w,h=>by
  by_cases e:y=n
  ·exact pz (l:=r)<|if_pos e
  ·exact pz (l:=r)<|(if_neg e).trans h
def Pr:aM->Bool
 |.cls k=>kI k
 |_=>true
noncomputable def oW.isStr:oW->Bool
 |.str _=>true
 |_=>false
def td:aM->Bool
 |.asg _ _ e _=>(oW.of e).any λc=>c.1.isStr
 |.e7 _=>false
 |.cls _=>false
def afo(b:List aM)(it:aM):Bool:=match it.place with
 |none=>true
 |some r=>b.all λy=>match y.place with|some q=>apart q r|none=>true
def baseOk(b:List aM):Option Expr->Bool
 |none=>true
 |some e=>h3 e (λn x=>if n="Exception"then b.all (λy=>!y.rr&&!(y.name==("Exception":Str)))else
  !(n==("__debug__":Str))&&b.any (λy=>y.name==n)&&b.all (λy=>!(y.name==n)||y.Rl)&&!startupNames.contains n&&decide (b.length<=900)&&b.all Pr) false
def FU(sc:Scope)(b:List aM)(it:aM):Bool:=
 decide (sc.names.lookup it.name=some .local)&&!(it.name==("__builtins__":Str))&&afo b it&&(match it with
 |.e7 d=>d.ok
 |.cls k=>kI k&&b.all (λy=>!(y.name==("__name__":Str))||td y)&&baseOk b k.base
 |.asg _ _ v _=>sx b v)
noncomputable def w8(sc:Scope):List aM->List aM->Bool
 |_,[]=>true
 |before,it::r=>FU sc before it&&w8 sc (before++[it]) r
theorem n7{r:Pos}(b:it.place=some r)(h:afo (D.map (·.1)) it=true):∀y∈D,∀q,y.1.place=some q->apart q r=true:=λy d q c=>by unfold afo at h;rw[b]at h;have:=List.all_eq_true.mp h y.1<|List.mem_map.mpr ⟨y,d,rfl⟩;rw[c]at this;exact this
theorem r2(x:eA prog I c cS F aq bU h0 D l h)(g:∃t,bU "__name__"=some (.str "__main__" t))
 (m:(D.map (·.1)).all (λy=>!(y.name==("__name__":Str))||td y)=true):∃p r,ae4 (D.map λx=>(x.1.name,x.2)) bU "__name__"=some (.str p r):=by
 refine Θ λk=>?_
 obtain⟨v,d⟩:∃v,ae4 (D.map λx=>(x.1.name,x.2)) bU "__name__"=some v:=by obtain⟨t,f⟩:=g;exact pz f
 rcases iq d with q|q
 ·obtain⟨y,j,e⟩:=List.mem_map.mp q;have b:=x.items y j;have:=List.all_eq_true.mp m y.1<|List.mem_map.mpr ⟨y,j,rfl⟩;have s:y.1.name="__name__":=congrArg Prod.fst e;have i:y.2=v:=congrArg Prod.snd e;rw[s]at this;obtain⟨it,u⟩:=y;dsimp only at this b i;subst i;cases it with
  |asg _ _ e _=>
   obtain⟨⟨c,_⟩,n,o⟩:=(Option.any_eq_true _ _).mp this
   cases c with
   |str=>obtain⟨t,e⟩:=b _ n;exact k ⟨_,t,by rw[d,e]⟩
   |_=>cases o
  |e7=>cases this
  |cls=>cases this
 ·obtain⟨t,f⟩:=g;replace q:=f▸q;obtain rfl:=Φ q;exact k ⟨_,t,d⟩
theorem Ki(f:nz prog c cS F aq bU d0 h0)(K:∃t,bU "__name__"=some (.str "__main__" t))(R:A.depth<recursionLimit):
 ∀(b:List aM) (D:List<|aM×Value) (l:List<|Pos×Addr) (s:Shared) (Q:Flow->Shared->Prop),w8 prog.main.scope (D.map (·.1)) b=true->I=D.map (·.1)++b->
 eA prog I c cS F aq bU h0 D l s.heap->(∀G u κ tk,G.map (·.1)=I->eA prog I c cS F aq bU h0 G u κ->Q .next {s with heap:=κ,toks:=tk})->
 wpAny (model prog w) A (execs (b.map aM.stmt)<|mainEnv prog c F) Q E s:=by
 intro dj
 induction dj with
 |nil=>exactλD l s Q α H x h=>wpAny_execs_nil<|h D l s.heap s.toks (by rw[H,append_nil]) x
 |cons it r aG=>
  intro D l s Q kr H x h
  obtain⟨S,Z⟩:=bf kr
  have next:∀v u κ tk,eA prog I c cS F aq bU h0 (D++[(it,v)]) u κ->wpAny (model prog w) A (execs (r.map aM.stmt)<|mainEnv prog c F) Q E {s with heap:=κ,toks:=tk}:=λv u κ tk X=>
   aG (D++[(it,v)]) u {s with heap:=κ,toks:=tk} Q ((List.map_append)▸Z) (by rw[H,List.map_append,bp];rfl) X λG lX μ M e gM=>h G lX μ M e gM
  unfold FU at S
  simp only[Bool.and_eq_true,decide_eq_true_eq,Bool.not_eq_true']at S
  obtain⟨⟨⟨B,Y⟩,J⟩,j⟩:=S
  have C:it.name≠"__builtins__":=λe=>by rw[e]at Y;exact absurd Y<|of_decide_eq_true rfl
  refine wpAny_execs_cons ?_
  cases it with
  |e7 d=>exact Ke f x j B C (n7 rfl J) next
  |asg X p v q=>exact Kd f x j B C next
  |cls k=>
   obtain⟨⟨O,P⟩,i⟩:(kI k=true/\_)/\baseOk (D.map (·.1)) k.base=true:=by simpa only[Bool.and_eq_true]using j
   cases m:k.base with
   |none=>exact G7 f x m O B C (n7 rfl J) (r2 x K P) R next
   |some be=>
    rw[m]at i;obtain⟨n,p,W,L⟩:=oe i;rw[W]at m;clear i W;replace i:(if n="Exception"then _ else _)=true:=L;by_cases e:n="Exception"
    ·rw[if_pos e]at i;subst e;have V:∀y∈D,y.1.rr=false/\y.1.name≠"Exception":=λy g=>by have:=List.all_eq_true.mp i y.1<|List.mem_map.mpr ⟨y,g,rfl⟩;simp only[Bool.and_eq_true,Bool.not_eq_true']at this;exact⟨this.1,λe=>by rw[e]at this;exact absurd this.2<|of_decide_eq_true rfl⟩
     exact G9 f x m (λy g=>(V y g).2) (λy g=>(V y g).1) O B C (n7 rfl J) (r2 x K P) R next
    ·rw[if_neg e]at i;simp only[Bool.and_eq_true,Bool.not_eq_true',decide_eq_true_eq]at i;obtain⟨⟨⟨⟨⟨bj,bX⟩,mw⟩,T⟩,U⟩,N⟩:=i;rw[length_map]at U;refine G8 f x m e bj rfl (f.others _ λq=>?_) (λy g o=>?_) ?_ U (λy g=>?_) O B C (n7 rfl J) (λy g nX o=>?_) (r2 x K P) R next
     ·rw[List.contains_iff_mem.mpr q]at T;cases T
     ·have:=List.all_eq_true.mp mw y.1<|List.mem_map.mpr ⟨y,g,rfl⟩;rw[o]at this;simpa using this
     ·obtain⟨y,g,o⟩:=List.any_eq_true.mp bX;obtain⟨z,hz,rfl⟩:=List.mem_map.mp g;exact⟨z,hz,beq_iff_eq.mp o⟩
     ·rw[H];exact List.mem_append_left _<|List.mem_map.mpr ⟨y,g,rfl⟩
     ·have:=List.all_eq_true.mp N y.1<|List.mem_map.mpr ⟨y,g,rfl⟩;replace this:=o▸this;exact this
end
section
variable {den:Code->Sem Fin}{p:Program}
theorem JP{n:Nat}{o:Outcome}{s':Shared}:∀{s:Shared} {t:Thread},runN den p w n s t=.halted o s'->B7 (λk b t1=>runN den p w k s t=.running b t1) λk b t1=>step den p w b t1=.halt o s':=by
 induction n with
 |zero=>intro s t h;cases h
 |succ n d=>
  intro s t h
  simp only[runN]at h
  cases c:step den p w s t with
  |go f h2=>rw[c]at h;obtain⟨k,b,t1,g,e⟩:=d h;exact⟨k+1,b,t1,by simp only[runN,c];exact g,e⟩
  |halt i f=>rw[c]at h;cases h;exact⟨0,s,t,rfl,c⟩
theorem GY:∀{k:Nat} {s c:Shared} {t t1:Thread},runN den p w k s t=.running c t1->(∀j d h2,runN den p w j s t=.running d h2->h2.calm=true)->s.asleep->schedN den p w k (.single s t)=.running (.single c t1):=by
 intro l
 induction l with
 |zero=>intro s c t t1 h _ _;have e:Run.running s t=.running c t1:=h;injection e with o i;rw[o,i];rfl
 |succ k g=>
  intro s c t t1 h f hz
  simp only[runN]at h
  cases b:step den p w s t with
  |go d h2=>
   rw[b]at h;have e:=sstep_single den p w s t (f 0 s t rfl) hz;rcases e with e|e
   ·rw[b]at e;simp only[schedN,e,Step.lift];exact g h (λj m n q=>f (j+1) m n (by simp only[runN,b];exact q))<|Shared.asleep_of_life (step_life den p w s d t h2 b) hz
   ·rw[b]at e;cases e
  |halt r d=>rw[b]at h;cases h
theorem afx{s':Shared}{t:Thread}{f:Flow}(b:t.calm=true)(h:step (denote table) prog w s t=.halt (.done f) s'):through t=true:=by
 have m:t.loud=false:=by
  rw[Thread.calm_eq]at b;cases e:t.loud
  ·rfl
  ·rw[e]at b;cases b
 have q:=stepK_forget (denote table) prog w s t
 rw[h]at q
 clear b h
 cases g:stepK (denote table) prog w s t with
 |go k h2=>rw[g]at q;cases q
 |halt o k=>rw[g]at q;injection q with j _;subst j;obtain⟨c,d,p,st⟩:=t;obtain⟨l,i,_⟩:=step_halt_result (M:=model prog w) (r:=.ok f)<|(Model.step_quiet _ m).trans g;subst l i;rfl
end
theorem vg{t:Sem Fin}{P:Shared->Prop}(m:s.asleep)
 (h:wpAny (model prog w) callerA t (λc s'=>(∃f,c=.done f)/\P s'/\s'.gens=#[]) (λX X=>False) s):
 ∃n s' l,schedN (denote table) prog w n (.single s ⟨t,.builtin "claim.caller" {},default,[]⟩)=.running (.single s' l)/\through l=true/\s'.heap.life=s.heap.life/\P s'/\s'.gens=#[]:=by
 have κ:=wp_of_wpAny_done (R:=λr s'=>((∃f,r=.ok f)/\P s'/\s'.gens=#[])/\leftWithCleanup s'.gens=false) caller_in
  (wpAny_mono h (λX X ⟨⟨f,e⟩,a,b⟩=>⟨f,e,⟨⟨f,rfl⟩,a,b⟩,by rw[b];simp[leftWithCleanup]⟩) λX X x=>x.elim) default
 obtain⟨n,r,aO,p,v,A,j⟩:=(wp_iff_halts (M:=model prog w) (R:=λr s'=>(∃f,r=.ok f)/\P s'/\s'.gens=#[]) ..).mp κ
 obtain⟨y,o,u,g⟩:=runNI_real _ _ _ p<|outcomeOf_ends r
 obtain rfl:y=aO:=Shared.eq_of_forget_eq u j
 obtain⟨f,rfl⟩:=v
 obtain⟨k,B,z,d,i⟩:=JP o
 have q:=step_halt_same _ _ _ _ _ _ _ i
 subst q
 exact⟨k,_,z,GY d g m,afx (g _ _ _ d) i,runN_life_running d,A,j⟩
section
open PySem.Claim2Try
def Oo(p:Program)(s:Shared):Prop:=∃d0 cJ c cS,BootLeft9 (opening p) s.heap d0 cJ c cS
theorem MF(f:(opening prog).main.body=[])(d:(opening prog).main.more=[]):
 (∃s,AfterImport (opening prog) w s)/\∀s,AfterImport (opening prog) w s->Oo prog s/\s.gens=#[]:=by
 refine AfterImport.of_body9 (out:=#[]) (λh tk d0 cJ c cS F b=>?_) d
 refine f▸(codeAny_body rfl rfl<|wpAny_mono (E:=λy y=>False) (wpAny_execs_nil ?_) (λy y x=>x) λy y x=>x.elim)
 exact⟨⟨_,rfl⟩,.of b.toBootLeft (λy y y y e=>e) b.g,⟨⟨d0,cJ,c,cS,b⟩,rfl⟩,rfl⟩
structure kU(prog:Program)(w:World)(I:List aM)(vd aO:Shared)(c cS F:Addr)(aq:Nat)(bU d0:Str->Option Value)(h0:Heap)(D:List<|aM×Value)(l:List<|Pos×Addr):Prop where
 fix:nz prog c cS F aq bU d0 h0
 inv:eA prog I c cS F aq bU h0 D l aO.heap
 all:D.map (·.1)=I
 blt:∀x:Str,x≠"__name__"->d0 x=bootBuiltins x
inductive Cf(prog:Program)(w:World)(I:List aM)(s aO:Shared):Prop
 |mk (c cS F aq bU d0 h0 D l:_):TopRan prog w s aO->s.asleep->s.gens=#[]->aO.asleep->aO.gens=#[]->kU prog w I s aO c cS F aq bU d0 h0 D l->Cf prog w I s aO
inductive Ex(prog:Program)(w:World)(I:List aM)(cJ d0:Str->Option Value)(s s':Shared):Prop
 |mk (c cS F aq h0 D l:_):kU prog w I s s' c cS F aq cJ d0 h0 D l->s.heap.objs.size<=cS->(∀b o,s.heap.get? b=some o->h0.get? b=some o)->s.heap.objs.size<=aq->s'.os=s.os->Ex prog w I cJ d0 s s'
theorem N5(a5:(opening prog).main.body=[])(Dj:(opening prog).main.more=[])(mb:behindTheImports prog=prog.main.body)(S:I.map aM.stmt=prog.main.body)(kr:w8 prog.main.scope [] I=true)
 (Yd:prog.main.scope.kind=.module) (agj:bearImports prog.main.body=false) (acO:importedModules prog.main.body=[]) (IV:hasAnns prog.main.body=false) (IW:docOf prog.main.body=none) (nT:∀x∈laidNames,∀it∈I,it.name≠x) (O:∀it∈I,it.name∈prog.boundNames):
 (∃s,AfterImport (opening prog) w s)/\∀s,AfterImport (opening prog) w s->∃aO,Cf prog w I s aO:=by
 have B:=MF (w:=w) a5 Dj
 refine⟨B.1,λs aj=>?_⟩
 obtain⟨⟨d0,cJ,oL,ad7,d⟩,X⟩:=B.2 s aj
 have hz:=aj.life
 have U:wpAny (model prog w) callerA (topStub prog).cur (λR s'=>(∃f,R=.done f)/\Ex prog w I cJ d0 s s'/\s'.gens=#[]) (λα α=>False) s:=by
  refine υ<|wpAny_moduleCode λc cS η aeD dH a3 i W=>?_;have Wh:=d.g.at λo e=>dH _ _ e;refine υ<|υ<|wpAny_nsGet Wh<|EB rfl λF j dD g2 u G=>?_;simp only[mb,←S];have A:∀b o,s.heap.get? b=some o->j.get? b=some o:=λb o e=>dD _ _<|dH _ _ e;have gl:=d.g.lt;have du:=W.lt.2;have sc:=W.lt.1;have aed:@Eq Nat η.objs.size F:=u;have aeK:=G;have H:=gl;have adC:=i;have ko:=a3;obtain⟨bm,o,V,kh,jk,iQ,K,M⟩:=A2 d.bmod;have J:=lt_size K;have RL:∀b:Addr,@LT.lt Nat _ b 4->b≠cS:=λb q e=>by exact(Nat.lt_irrefl 0<|nB 0x121e3e838080812e1201e418201e031800e10 [_,_,_] ι i H q e)
  have QI:nz prog c cS F j.objs.size cJ d0 j:=by
   refine⟨by show@LT.lt Nat _ cS _;exact(hB 0x101e2301e0312e91181202e10 [_,_,_,_] ι u G du),by show@LT.lt Nat _ c _;exact(hB 0x101e2301e0312e91181202e10 [_,_,_,_] ι u G sc),d.b.at λo e=>A _ _ e,?_,?_,by show@LT.lt Nat _ 3 _;exact(HF 0x121e177048431821ebb938031821ebb9382132ebb93891183422ebb9383220ebb93810 [_,_,_,_,_] ι i u G du H),RL _ (by decide),RL _ (by decide),d.others _ (by decide),Yd,λx t=>d.others x t⟩
   ·rw[d.builtins _<|by decide];kernel_rfl
   ·rw[d.builtins _<|by decide];kernel_rfl
  have P:eA prog I c cS F j.objs.size cJ j [] [] j:=by
   refine⟨⟨Wh.at λo e=>dD _ _ e,jD W dD,⟨?_,?_⟩,⟨bm,o,V,kh,jk,?_,A _ _ K,M⟩⟩,⟨_,d.statics.at λo e=>A _ _ e,λα α=>rfl,λα α=>rfl⟩,Nat.le_refl _,λα h=>(nomatch h),λα h=>(nomatch h),λα α α α α α e=>e,λmL x p y bB pos v rF e=>?_⟩
   ·show@LT.lt Nat _ 3 c;exact(ck 0x121efa038131821ebb938031820ebb93810 [_,_] ι a3 H)
   ·show@LT.lt Nat _ 3 cS;exact(ck 0x121efa038131821ebb938031820ebb93810 [_,_] ι i H)
   ·intro e;exact(Nat.lt_irrefl 0<|hB 0x121e3e838080812e1201e0200e10 [_,_,_] ι i J e)
   ·cases mL<;>cases e
  have jj:(callerA.deeper<|mainEnv prog c F).depth<recursionLimit:=by show _+_<recursionLimit;decide
  refine υ<|wpAny_run<|codeAny_body (by rw[S];exact IV) (by rw[S];exact IW) ?_;refine Ki (I:=I) QI d.name jj I [] [] ⟨j,_,_,_,_⟩ _ kr rfl P ?_;intro D l κ tk IU Uv;exact ψ ⟨⟨_,rfl⟩,⟨c,cS,F,_,j,D,l,⟨QI,Uv,IU,d.builtins⟩,i,A,by show@LE.le Nat _ s.heap.objs.size j.objs.size;exact(nB 0x100e4001e2112e91183402e3200e10 [_,_,_,_,_] ι i u G du),rfl⟩,X⟩
 obtain⟨n,aO,tX,Γ,u,bQ,⟨c,cS,F,aq,h0,D,l,T,i,A,au,rn⟩,rl⟩:=vg hz U
 obtain⟨bm,o,V,kh,jk,iQ,K,M⟩:=A2 T.inv.main.bmod
 obtain⟨ms,bD,cw,_⟩:=T.inv.st
 have N:=globalOf_of_ns T.inv.main.g
 have QJ:=globalOf_of_ns d.g
 have nm:∀y∈D,y.1∈I:=λy E=>by rw[←T.all];exact List.mem_map.mpr ⟨y,E,rfl⟩
 refine⟨aO,c,cS,F,aq,cJ,d0,h0,D,l,⟨⟨n,tX,Γ,u⟩,bQ,Shared.rest_eq rn,λb o a7 Z=>?_,?_,?_,Pin.keysAreStrs_of_ns T.inv.main.g,λx t=>?_,⟨bm,o,(N _).trans V,K,M.1,M.2.1⟩,λg Y=>?_,λx v t=>?_,λx t=>?_⟩,hz,X,Shared.asleep_of_life bQ hz,rl,T⟩
 ·have J:b<s.heap.objs.size:=lt_size a7;exact T.inv.keep b o (Nat.lt_of_lt_of_le J au) (λe=>absurd J<|fF<|e▸i) (λe=>Z<|.inl e) (λe=>Z<|.inr<|.inl e)<|A _ _ a7
 ·intro k v Q;rw[Pin.staticOf_of_ns bD]at Q;cases C:jI k with
  |false=>rw[cw k C]at Q;cases Q
  |true=>refine .inr<|.inl ?_;delta runKey;have:k.opensWith "type.__subclasses__."=true:=C;rw[this];rfl
 ·intro k;rw[Pin.staticOf_of_ns bD,Pin.staticOf_of_ns d.statics];cases C:jI k with
  |false=>exact .inl<|cw k C
  |true=>exact .inr<|.inr<|.inl C
 ·have yt:aO.heap.Ns builtinsNs d0:=T.fix.b.at λo e=>T.inv.keep _ _ (Nat.lt_trans (show(0:Nat)<3 by decide) T.fix.three) T.fix.A3 (by decide) (by decide) e;exact(Pin.builtinOf_of_ns yt x).trans<|T.blt x t
 ·rw[rl]at Y;exact absurd Y (by simp)
 ·rw[N]at t;rcases iq t with q|q
  ·obtain⟨y,E,e⟩:=List.mem_map.mp q;have:y.1.name=x:=congrArg Prod.fst e;exact .inr<|this▸O _ (nm y E)
  ·by_cases cp:x∈startupNames
   ·exact .inl cp
   ·rw[d.others x cp]at q;cases q
 ·rw[N,QJ]
  have:∀(L:List<|aM×Value) (m:Str->Option Value),(∀y∈L,y.1.name≠x)->ae4 (L.map λx=>(x.1.name,x.2)) m x=m x:=by
   intro L
   induction L with
   |nil=>exactλm α=>rfl
   |cons y r aG=>intro m h;refine(aG _ λz hz=>h z<|.tail _ hz).trans<|if_neg λe=>h y (.head _) e.symm
  exact this D cJ λy E=>nT x t _<|nm y E
end
section
open PySem.Claim2Try
def cQ(I:List aM)(x:Str):Option aM:=I.foldl (λacc it=>if it.name==x then some it else acc) none
theorem vF{m:Str->Option Value}(r:List<|aM×Value):∀{it:aM},cQ (r.reverse.map (·.1)) x=some it->∃v,(it,v)∈r.reverse/\ae4 (r.reverse.map λx=>(x.1.name,x.2)) m x=some v:=by
 induction r with
 |nil=>intro it h;cases h
 |cons p r c=>
  intro it h;obtain⟨b,d⟩:=p;rw[reverse_cons,List.map_append,map_cons,map_nil]at h⊢;unfold cQ at h;rw[List.foldl_append]at h;rw[pA];simp only[foldl_cons,foldl_nil]at h;by_cases e:x=b.name
  ·rw[if_pos<|beq_iff_eq.mpr e.symm]at h;cases h;exact⟨d,List.mem_append_right _<|.head _,if_pos e⟩
  ·rw[if_neg λq=>e (beq_iff_eq.mp q).symm]at h;obtain⟨v,f,g⟩:=c h;exact⟨v,List.mem_append_left _ f,(if_neg e).trans g⟩
noncomputable def toDefD(s:Stmt):Option bx:=if h:s.ctorIdx=0 then Stmt.FunctionDef.elim (motive_2:=λx=>Option bx) s h λn a b x x x sc x x p=>some ⟨n,a,b,sc,p⟩else none
def toClsD(s:Stmt):Option fA:=if h:s.ctorIdx=2 then Stmt.ClassDef.elim (motive_2:=λx=>Option fA) s h λn es x b x x sc cC x st p=>some ⟨n,es.head?,b.filterMap toDefD,sc,cC,st,p⟩else none
def Te(s:Stmt):Option aM:=((toDefD s).map .e7).or<|((toClsD s).map .cls).or (if h:s.ctorIdx=5 then Stmt.Assign.elim (motive_2:=λy=>Option aM) s h λcC v q=>cC.head?.bind λt=>h3 t (λx p=>some<|.asg x p v q) none else none)
noncomputable def dV:Program:=PySem.Challenge.pw_pq0323_01
def bG:List aM:=dV.main.body.filterMap Te
set_option maxHeartbeats 4000000 in
theorem Dr:bG.map aM.stmt=dV.main.body:=by kernel_rfl
set_option maxHeartbeats 4000000 in
theorem Jd:w8 dV.main.scope [] bG=true:=by kernel_rfl
theorem He(w:World):(∃s,AfterImport (opening dV) w s)/\∀s,AfterImport (opening dV) w s->∃aO,Cf dV w bG s aO:=N5 (by kernel_rfl) (by kernel_rfl) (by kernel_rfl) Dr Jd (by kernel_rfl) (by kernel_rfl) (by kernel_rfl) (by kernel_rfl) (by kernel_rfl) (by decide+kernel) (by decide+kernel)
theorem kU.find{aO:Shared}{d0:Str->Option Value}(T:kU dV w bG s aO c cS F aq bU d0 h0 D l)
 (e:cQ bG x=some it):∃v,ae4 (D.map λx=>(x.1.name,x.2)) bU x=some v/\hI bG aq D.length aO.heap it v:=by
 rw[←T.all]at e
 have:=vF (m:=bU) D.reverse (by rw[List.reverse_reverse];exact e)
 rw[List.reverse_reverse]at this
 obtain⟨v,b,d⟩:=this
 exact⟨v,d,T.inv.items _ b⟩
def AU:Prop:=∀(w:World) (d s aO:Shared) (c cS F:Addr) (aq:Nat) (bU d0:Str->Option Value) (h0:Heap) (D:List<|aM×Value) (l:List<|Pos×Addr),kU dV w bG d s c cS F aq bU d0 h0 D l->(∀b o,s.heap.get? b=some o->aO.heap.get? b=some o)->aO.gens=#[]->∀(f L:Addr) (vs:List Value) (ns:List Int),ae4 (D.map λx=>(x.1.name,x.2)) bU "law"=some (.ref f)->aO.heap.IsList L vs.toArray->IntsAre vs ns->ns.length<=63->wpAny (model dV w) callerA (call (.ref f) [.ref L]) (λv s'=>v=.bool true/\(∀b o,aO.heap.get? b=some o->s'.heap.get? b=some o)/\s'.os=aO.os/\s'.gens=#[]) (λy y=>False) aO
end
section
open PySem.Claim2Try
def ly:bx:=match cQ bG "law"with|some (.e7 d)=>d|_=>⟨"",⟨[],[],none,[],[],none,[]⟩,[],default,default⟩
theorem Jj:cQ bG "law"=some (.e7 ly):=by kernel_rfl
theorem Nn:dV.theDef "law"=some (ly.params,ly.body,ly.scope):=by kernel_rfl
theorem yX:ly.name="law":=by kernel_rfl
theorem vP:ly.params.defaults=[]:=by kernel_rfl
theorem Jk:kwWritten? ly.params.kwonlyargs ly.params.kw_defaults=some []:=by kernel_rfl
theorem YY:PySem.Challenge.rw_pq0323_01.row.toRowW.prog=dV:=rfl
set_option maxHeartbeats 0 in
theorem Jl:PySem.Challenge.rw_pq0323_01.wellSaid=true:=by
 unfold OpenLaw.wellSaid OpenRow.wellSaid OpenRow.partSaid looksOpen
 repeat' (with_reducible refine look_both ?_ ?_)
 all_goals decide+kernel
set_option tactic.hygienic true in
set_option maxHeartbeats 4000000 in
theorem Oi(H:AU):PySem.Challenge.rw_pq0323_01.Holds:=by
 refine holds_law Jl λY0=>?_;have Q:PySem.Challenge.rw_pq0323_01.row.toRowW.promised:=⟨[.list []],by decide+kernel,by decide+kernel⟩;refine⟨Y0,Q,⟨⟨rfl,rfl,rfl,rfl,rfl,by decide+kernel⟩,by kernel_rfl,rfl⟩,Q.witness,λw=>⟨(He w).1,λs aj=>?_⟩⟩;refine Θ λG=>?_;obtain⟨aO,c,cS,F,aq,bU,d0,h0,D,l,bJ,FJ,W,hz,dO,T⟩:=(He w).2 s aj;obtain⟨v,B,f,rfl,aeo,u⟩:=T.find Jj;have S:∀x,globalOf aO.heap x=ae4 (D.map λx=>(x.1.name,x.2)) bU x:=globalOf_of_ns T.inv.main.g;refine G ?_;refine⟨s,fenceModules_id _ (by kernel_rfl) s,W,aO,bJ,λn au=>?_,λx C=>(nomatch C),λx C=>(nomatch C),?_⟩
 ·obtain rfl:n="law":=by have:n∈(["law"]:List Str):=au;simpa using this
  obtain⟨qH,pm,dB,doc,K,E,_,_,_,N,i⟩:=u
  have V:qH=.none:=by
   rw[vP]at N
   obtain rfl:K=[]:=by
    cases K with
    |nil=>rfl
    |cons a b=>exact(N:False).elim
   rcases i with i|i
   ·exact i.2
   ·exact absurd rfl i.1
  exact⟨f,_,_,ly.params,ly.body,ly.scope,(S _).trans B,E,rfl,Nn,yX,yX,rfl,rfl,rfl,rfl,rfl,rfl,.inl ⟨vP,V⟩,[],Jk,.inl ⟨rfl,rfl⟩⟩
 ·refine ClaimW.callFrom_of_specN (c:=PySem.Challenge.rw_pq0323_01.row.toRowW.claim) (tree:=λvs=>do match←nsGet mainNs "law"with
   |some f=>do ret (←PySem.call f vs)
   |none=>unsupported "claim.caller:no-such-global") hz (by rw[dO];simp[leftWithCleanup]) λargs O J ord I=>?_
  refine Θ λG=>?_;obtain⟨⟨vs,m⟩,j⟩:=Option.isSome_iff_exists.mp<|layAllW_isSome (R:=[]) (cl:=classAt aO.heap) (P:=w.params) (ord:=ord) (λc a3=>(nomatch a3)) args [.list .int] aO (pre_splitW (r:=PySem.Challenge.rw_pq0323_01.row.toRowW) O).1;have d:=layAllW_keeps _ _ _ j;have Z:=layAllW_rest _ _ _ j;obtain⟨as,M,p,A⟩:=reads_layAllW I _ _ _ j J m.heap λα α e=>e;have t:=well_layAllW I args aO _ j _ λα α e=>e;have yB:∀a∈as,(a==sysModules)=false:=λa bH=>beq_eq_false_iff_ne.mpr λe=>by have E:=(p.2.2 a bH).1;have μ:sysModules<aO.heap.objs.size:=Nat.lt_of_lt_of_le (Nat.lt_trans (show(1:Nat)<3 by decide) T.fix.three) T.inv.jx;subst e;exact absurd μ<|fF E
  have Yl:=M;have Y:=j
  wrow_args O J M t yB;rename_i ns _ _ Qj _ _ a1 a2 L xs h9 cH _ _ ji _ _ y _;refine G ?_;refine⟨_,m,Y,?_⟩;have U:m.heap.Ns mainGlobals<|ae4 (D.map λx=>(x.1.name,x.2)) bU:=T.inv.main.g.at λo e=>d _ _ e;refine wpAny_bind<|wpAny_nsGet (a:=mainGlobals) U ?_;rw[B];refine wpAny_bind<|wpAny_mono (H w s aO {m with gens:=#[]} c cS F aq bU d0 h0 D l T d rfl f L xs ns B cH ji<|aV 0x100e3f2800aeb0b3f28 [_] ι y) (λv s' h=>?_) λα α h=>h.elim;obtain⟨rfl,k,a5,rl⟩:=h;have g:GoodW PySem.Challenge.rw_pq0323_01.row.toRowW.claim (classAt aO.heap) (ExcName.means aO.heap) [ofPy<|PyData.list<|List.map PyData.int ns] {m with gens:=#[]} (.ok<|.ret<|.bool true) s':=⟨.inl ⟨.bool true,.bool true,[],rfl,λα=>rfl,.bool _,postW_of (r:=PySem.Challenge.rw_pq0323_01.row.toRowW) (X:=(true==true)) (by kernel_rfl) (w_eq_bool (w_res rfl) w_lit) rfl,λα=>⟨.nil,λα h=>nomatch h⟩⟩,k,a5,rl⟩;have z:=g.endsN (c:=PySem.Challenge.rw_pq0323_01.row.toRowW.claim) rfl rfl (λa b=>ident_freeW (r:=PySem.Challenge.rw_pq0323_01.row.toRowW) rfl rfl rfl a b) Yl A Z.2.2.1;exact ψ ⟨_,rfl,z.1,z.2.1,z.2.2,λq=>nomatch q⟩
end
end PQ.Internal
namespace PZ.Internal
open PySem PySem.W PyProof.Rows PySem.Calls LA.I PQ.Internal List Nat PySem.Heap Int PySem.Obj
noncomputable def afk:List Str:=["buffer-read-only","error","Maximum buffer size exceeded","args-out-of-range","asking","done","none","any","boundary","insert","delete","marker","point","property","unmodified","a","Changes to be undone are outside visible portion of buffer"]
def strOf(k:Nat):Str:=afk.getD k ""
inductive ζ where
 |none|bool (b:Bool)|int (i:Int)|str (k:Nat)|list (xs:List ζ)|arg (xs:List ζ)|tup (xs:List ζ)|inst (c:Nat) (br:List ζ)|dJ|ref (i:Nat)
noncomputable def ζ.v{α:Type}(p:ζ)(d:α)(n:α:=d)(b:Bool->α:=λx=>d)(i:Int->α:=λx=>d)(s:Nat->α:=λx=>d)(l:List ζ->α:=λx=>d)(a:List ζ->α:=λx=>d)(t:List ζ->α:=λx=>d)(c:Nat->List ζ->α:=λx x=>d)(z:α:=d)(r:Nat->α:=λx=>d):α:=p.casesOn n b i s l a t c z r
variable {α:Type}
theorem kK{P:α->Prop}{o:Option α}{k:α}(g:o.elim True P)(h:o=some k):P k:=by subst h;exact g
inductive Ξ where
 |lst (xs:List ζ)
 |obj (c:Nat) (br:List (Option ζ))
noncomputable def fieldsOf:Nat->List Str
 |0=>["symbol","data"]
 |1=>["codes"]
 |2=>["start","old","new","is_replaced","told","counts"]
 |3=>["buffer","finder","maker","bound","state","start","end","told","near","is_replaced","many","steps"]
 |4=>["room","cells","gap_start","gap_end"]
 |5=>["rows"]
 |7=>["number","name","text","markers","point","begv","zv","mark","is_live","is_read_only","ticks","codes_ticks","saved_ticks","listeners","undo","props","overlays","locals","syntax","file"]
 |8=>["codes","is_folded"]
 |9=>["rows","dropped","is_on","point_before","noted_tick"]
 |10=>["codes","runs"]
 |11=>["list"]
 |12=>["low","high","rows","first","last"]
 |_=>[]
noncomputable def ae2:Nat->Str
 |0=>"LispSignal"|1=>"Plain"|2=>"Step"|3=>"Replacing"|4=>"GapText"|5=>"Markers"|6=>"Opaque"|7=>"Buffer"|8=>"Literal"|9=>"UndoList"|10=>"Piece"|11=>"Recording"|12=>"Span"
 |_=>""
structure aD where
 ρ:List<|Option ζ
 σ:List Ξ
inductive Res(β:Type)where
 |ok (b:β) (a:aD)
 |err (k:Nat) (a:aD)
 |stuck
noncomputable def Res.bind{α β:Type}:Res α->(α->aD->Res β)->Res β
 |.ok b a,f=>f b a
 |.err k a,_=>.err k a
 |.stuck,_=>.stuck
inductive c2 where
 |lst (a:Addr)
 |obj (a:Addr) (d:Option Addr)
def c2.own:c2->Addr->Prop
 |.lst a,b=>b=a
 |.obj a d,b=>b=a\/d=some b
noncomputable def c2.addr:c2->Addr
 |.lst a=>a
 |.obj a _=>a
structure aB where
 w:World
 vd:Shared
 s:Shared
 cI:Heap
 os:OsState
 c:Addr
 cS:Addr
 F:Addr
 aq:Nat
 bU:Str->Option Value
 d0:Str->Option Value
 h0:Heap
 D:List<|aM×Value
 l:List<|Pos×Addr
 T:kU dV w bG vd s c cS F aq bU d0 h0 D l
 keep:∀b o,s.heap.get? b=some o->cI.get? b=some o
def aB.cJ(G:aB):Str->Option Value:=ae4 (G.D.map λx=>(x.1.name,x.2)) G.bU
abbrev aB.M(G:aB):Model:=model dV G.w
def aB.cls(G:aB)(c:Nat):Addr:=match G.cJ (ae2 c)with|some (.ref a)=>a|_=>0
noncomputable def IK(ns:List Str)(vs:List Value):Str->Option Value:=λx=>(ns.zip vs).lookup x
noncomputable def eO(ns:List Str)(vs:List<|Option Value):Str->Option Value:=λx=>((ns.zip vs).lookup x).bind id
inductive Tag where
 |no
 |z (o:Obj)
 |bO (i:Nat)
 |fr
structure ax where
 s:Shared
 T:Addr->Tag
 a6:List c2
noncomputable abbrev ax.h(r:ax):Heap:=r.s.heap
def bA(h:Heap)(a:Addr):Prop:=∃o,h.get? a=some o
def cx(h:Heap)(a:Addr):Prop:=h.get? a=none
variable {P:Prop}
theorem bA.ne{h:Heap}{a:Addr}(l:bA h a)(d:cx h a):P:=by obtain⟨o,e⟩:=l;exact nomatch e.symm.trans d
theorem dd{h:Heap}{a:Addr}(q:h.objs.size<=a):cx h a:=get?_none_of_le q
noncomputable abbrev bW(vs:List Value)(n:Nat):Obj:={cls:=.type "list",dict:=none,data:=.seq vs.toArray n,slots:=#[]}
noncomputable abbrev lR(vs:List Value):Obj:={cls:=.type "tuple",data:=.seq vs.toArray}
def Ci(r:ax)(h:Heap):Prop:=∀a o,r.T a=.z o->h.get? a=some o
inductive Rel(G:aB)(r:ax):ζ->Value->Prop
 |none:Rel G r .none .none
 |bool (b:Bool):Rel G r (.bool b) (.bool b)
 |int (i:Int) (t:Tok):Rel G r (.int i) (.int i t)
 |str (k:Nat) (t:Tok):Rel G r (.str k) (.str (strOf k) t)
 |list {xs:List ζ} {vs:List Value} {a:Addr} {n:Nat}:r.T a=.z (bW vs n)->xs.length=vs.length->(∀(i:Nat) x v,xs[i]?=some x->vs[i]?=some v->Rel G r x v)->Rel G r (.list xs) (.ref a)
 |arg {xs:List ζ} {vs:List Value} {a:Addr}:(∀h,Ci r h->h.IsList a vs.toArray)->xs.length=vs.length->(∀(i:Nat) x v,xs[i]?=some x->vs[i]?=some v->Rel G r x v)->Rel G r (.arg xs) (.ref a)
 |tup {xs:List ζ} {vs:List Value} {a:Addr}:r.T a=.z (lR vs)->xs.length=vs.length->(∀(i:Nat) x v,xs[i]?=some x->vs[i]?=some v->Rel G r x v)->Rel G r (.tup xs) (.ref a)
 |inst {c:Nat} {br:List ζ} {vs:List Value} {a:Addr}:(∀h,Ci r h->h.Inst a (G.cls c) (IK (fieldsOf c) vs))->br.length=(fieldsOf c).length->br.length=vs.length->(∀(i:Nat) x v,br[i]?=some x->vs[i]?=some v->Rel G r x v)->Rel G r (.inst c br) (.ref a)
 |dJ {a:Addr}:r.T a=.z {cls:=.type "dict",data:=.dict #[]}->(a==sysModules)=false->Rel G r .dJ (.ref a)
 |ref {i:Nat} {x:Addr}:(r.a6[i]?).map c2.addr=some x->Rel G r (.ref i) (.ref x)
structure All{α β:Type}(R:α->β->Prop)(xs:List α)(ys:List β):Prop where
 len:xs.length=ys.length
 get:∀(i:Nat) x y,xs[i]?=some x->ys[i]?=some y->R x y
abbrev bV(G:aB)(r:ax):List ζ->List Value->Prop:=All<|Rel G r
variable {β:Type}
theorem All.imp{R S:α->β->Prop}{xs:List α}{ys:List β}(h:All R xs ys)(k:∀x y,R x y->S x y):All S xs ys:=⟨h.len,λi x y a b=>k x y<|h.get i x y a b⟩
theorem All.nil{R:α->β->Prop}:All R [] []:=⟨rfl,λi x y h z=>by simp at h⟩
theorem All.cons{R:α->β->Prop}{x:α}{y:β}{xs:List α}{ys:List β}(h:R x y)(t:All R xs ys):All R (x::xs)<|y::ys:=
 ⟨congrArg (·+1) t.len,λi a b e f=>match i with
  |0=>Φ e▸Φ f▸h
  |i+1=>t.get i a b e f⟩
theorem All.head{R:α->β->Prop}{x:α}{y:β}{xs:List α}{ys:List β}(h:All R (x::xs)<|y::ys):R x y:=h.get 0 x y rfl rfl
theorem All.tail{R:α->β->Prop}{x:α}{y:β}{xs:List α}{ys:List β}(h:All R (x::xs)<|y::ys):All R xs ys:=⟨Nat.succ.inj h.len,λi a b e f=>h.get (i+1) a b e f⟩
theorem All.at_{R:α->β->Prop}{xs:List α}{ys:List β}{i:Nat}{x:α}(h:All R xs ys)(e:xs[i]?=some x)(k:∀y,ys[i]?=some y->R x y->P):P:=
 have b:=h.len▸(b8 e).1
 k ys[i] (b3 b) (h.get i x _ e<|b3 b)
theorem All.append{R:α->β->Prop}{xs rD:List α}{ys c:List β}(h:All R xs ys)(κ:All R rD c):All R (xs++rD)<|ys++c:=
 ⟨by rw[Δ,Δ,h.len,κ.len],λi a b e f=>by
  rcases Nat.lt_or_ge i xs.length with q|q
  ·rw[List.getElem?_append_left q]at e;rw[List.getElem?_append_left<|h.len▸q]at f;exact h.get i a b e f
  ·rw[List.getElem?_append_right q]at e;rw[List.getElem?_append_right<|h.len▸q,←h.len]at f;exact κ.get _ a b e f⟩
set_option tactic.hygienic true in
theorem All.take{R:α->β->Prop}{xs:List α}{ys:List β}(h:All R xs ys)(n:Nat):All R (xs.take n)<|ys.take n:=
 ⟨by rw[length_take,length_take,h.len],λi a b e f=>by
  rw[getElem?_take]at e f;split at e
  ·rename_i q;rw[if_pos q]at f;exact h.get i a b e f
  ·cases e⟩
theorem All.drop{R:α->β->Prop}{xs:List α}{ys:List β}(h:All R xs ys)(n:Nat):All R (xs.drop n)<|ys.drop n:=
 ⟨by rw[length_drop,length_drop,h.len],λi a b e f=>by rw[getElem?_drop]at e f;exact h.get _ a b e f⟩
theorem All.reverse{R:α->β->Prop}{xs:List α}{ys:List β}(h:All R xs ys):All R xs.reverse ys.reverse:=
 ⟨by rw[length_reverse,length_reverse,h.len],λi a b e f=>by
  have q:i<xs.length:=by have:=(b8 e).1;rwa [length_reverse]at this
  rw[List.getElem?_reverse q]at e;rw[List.getElem?_reverse<|h.len▸q,←h.len]at f;exact h.get _ a b e f⟩
theorem All.set{R:α->β->Prop}{xs:List α}{ys:List β}{x:α}{y:β}(h:All R xs ys)(c:R x y)(n:Nat):All R (xs.set n x)<|ys.set n y:=
 ⟨by rw[length_set,length_set,h.len],λi a b e f=>by
  by_cases q:n=i
  ·subst q;have l:n<xs.length:=by have:=(b8 e).1;rwa [length_set]at this
   rw[List.getElem?_set_self l]at e;rw[List.getElem?_set_self<|h.len▸l]at f;exact Φ e▸Φ f▸c
  ·rw[List.getElem?_set_ne q]at e f;exact h.get i a b e f⟩
structure dq(r r':ax):Prop where
 z:∀a o,r.T a=.z o->r'.T a=.z o
 m:∀(i:Nat) (x:Addr),(r.a6[i]?).map c2.addr=some x->(r'.a6[i]?).map c2.addr=some x
theorem dq.refl{r:ax}:dq r r:=⟨λx x e=>e,λx x e=>e⟩
variable {r' bz:ax}
theorem dq.trans{r:ax}(x:dq r r')(y:dq r' bz):dq r bz:=⟨λa o e=>y.z a o<|x.z a o e,λi a e=>y.m i a<|x.m i a e⟩
variable {G:aB}{p:ζ}
theorem Rel.mono{r:ax}{v:Value}(h:Rel G r p v)(m:dq r r'):Rel G r' p v:=by
 induction h with
 |none=>exact .none
 |bool b=>exact .bool b
 |int i t=>exact .int i t
 |str k t=>exact .str k t
 |list a l _ d=>exact .list (m.z _ _ a) l d
 |arg a l _ d=>exact .arg (λh z=>a h λx o e=>z x o<|m.z x o e) l d
 |tup a l _ d=>exact .tup (m.z _ _ a) l d
 |inst a q l _ d=>exact .inst (λh z=>a h λx o e=>z x o<|m.z x o e) q l d
 |dJ a q=>exact .dJ (m.z _ _ a) q
 |ref a=>exact .ref<|m.m _ _ a
variable {xs:List ζ}{vs:List Value}
theorem All.mono{r:ax}(h:bV G r xs vs)(m:dq r r'):bV G r' xs vs:=h.imp λy y x=>x.mono m
def hy(G:aB)(r:ax)(p:Option ζ)(v:Option Value):Prop:=p.isSome=v.isSome/\∀x y,p=some x->v=some y->Rel G r x y
theorem hy.mono{r:ax}{p:Option ζ}{v:Option Value}(h:hy G r p v)(m:dq r r'):hy G r' p v:=⟨h.1,λx y e f=>(h.2 x y e f).mono m⟩
structure InstAt(h:Heap)(a:Addr)(d:Option Addr)(C:Addr)(m:Str->Option Value):Prop where
 ex:∃o,h.get? a=some o/\o.cls=.ref C/\(∀c,o.data≠.cls c)/\o.dict=d
 no:d=none->∀n,m n=none
 dict:∀cz,d=some cz->cz≠a/\h.Ns1 cz m
theorem InstAt.inst{h:Heap}{a C:Addr}{d:Option Addr}{m:Str->Option Value}(x:InstAt h a d C m):h.Inst a C m:=by
 obtain⟨o,f,g,e,b⟩:=x.ex
 refine⟨o,f,g,e,?_⟩
 cases d with
 |none=>exact .inl ⟨b,x.no rfl⟩
 |some cz=>exact .inr ⟨cz,b,x.dict cz rfl⟩
def Xj(h:Heap)(a:Addr)(c:Nat):Prop:=∃o,h.get? a=some o/\(c=0->∃ds,o.data=.fields ds/\ds[1]?=some .none)/\(c≠0->∀ds,o.data≠.fields ds)
inductive cT(G:aB)(r:ax)(i:Nat):c2->Ξ->Prop
 |lst {a:Addr} {xs:List ζ} {n:Nat} {vs:List Value}:r.T a=.bO i->r.h.get? a=some (bW vs n)->bV G r xs vs->cT G r i (.lst a) (.lst xs)
 |obj {a:Addr} {d:Option Addr} {c:Nat} {br:List (Option ζ)} {vs:List (Option Value)}:r.T a=.bO i->(∀cz,d=some cz->r.T cz=.bO i)->InstAt r.h a d (G.cls c) (eO (fieldsOf c) vs)->All (hy G r) br vs->br.length=(fieldsOf c).length->Xj r.h a c->cT G r i (.obj a d) (.obj c br)
structure ae0(G:aB)(r:ax)(σ:List Ξ):Prop where
 i1:∀a o,G.cI.get? a=some o->r.T a=.z o
 fy:Ci r r.h
 len:r.a6.length=σ.length
 roots:∀(i:Nat) ro m,r.a6[i]?=some ro->σ[i]?=some m->cT G r i ro m
 live:∀a,r.T a≠.no->bA r.h a
 gens:r.s.gens=#[]
 os:r.s.os=G.os
 lH:∀a i,r.T a=.bO i->∃ro,r.a6[i]?=some ro/\ro.own a
def Mh(o:Obj):Prop:=(∃vs,o.data=.fields vs)/\(o.cls=.type "traceback"\/∃C,o.cls=.ref C)
inductive e5(o:Obj):Obj->Prop
 |same:e5 o o
 |slots (es:Array DictEntry) (hD:Nat) (du:Array (Option Value)):o.data=.dict es hD->e5 o {o with slots:=du}
 |exc {bu:Obj} (ws:Array Value):Mh o->bu.data=.fields ws->bu.cls=o.cls->e5 o bu
variable {o bu:Obj}
theorem e5.trans{g:Obj}(x:e5 o bu)(y:e5 bu g):e5 o g:=by
 cases x with
 |same=>exact y
 |slots es hD du c=>
  cases y with
  |same=>exact .slots es hD du c
  |slots _ _ p5 _=>exact .slots es hD p5 c
  |exc ws e _ _=>obtain⟨⟨vs,f⟩,_⟩:=e;exact Data.noConfusion<|c.symm.trans f
 |exc ws c d e=>
  cases y with
  |same=>exact .exc ws c d e
  |slots es hD du f=>exact Data.noConfusion<|d.symm.trans f
  |exc b _ h e'=>exact .exc b c h<|e'.trans e
theorem e5.data(x:e5 o bu)(h:∀vs,o.data≠.fields vs):bu.data=o.data/\bu.cls=o.cls:=by
 cases x with
 |same=>exact⟨rfl,rfl⟩
 |slots=>exact⟨rfl,rfl⟩
 |exc _ e _ _=>exact(h _ e.1.choose_spec).elim
def c9(h κ:Heap)(a:Addr):Prop:=∀o,h.get? a=some o->∃bu,κ.get? a=some bu/\e5 o bu
variable {κ:Heap}
theorem c9.of{h:Heap}{a:Addr}(k:∀o,h.get? a=some o->κ.get? a=some o):c9 h κ a:=λo e=>⟨o,k o e,.same⟩
theorem c9.trans{h b:Heap}{a:Addr}(x:c9 h κ a)(y:c9 κ b a):c9 h b a:=λo e=>by obtain⟨bu,e',q⟩:=x o e;obtain⟨d,c,f⟩:=y bu e';exact⟨d,c,q.trans f⟩
theorem c9.live{h:Heap}{a:Addr}(x:c9 h κ a)(l:bA h a):bA κ a:=by obtain⟨o,e⟩:=l;obtain⟨bu,e',_⟩:=x o e;exact⟨bu,e'⟩
theorem c9.ns{h:Heap}{a:Addr}(k:c9 h κ a){m:Str->Option Value}(n:h.Ns a m):κ.Ns a m:=by obtain⟨o,es,b,e,d,q⟩:=n;obtain⟨bu,e',s⟩:=k o e;exact⟨bu,es,b,e',(s.data λvs c=>Data.noConfusion<|d.symm.trans c).1.trans d,q⟩
theorem c9.cell{h:Heap}{a:Addr}(k:c9 h κ a){m:Option Value}(n:h.IsCell a m):κ.IsCell a m:=by obtain⟨o,e,d⟩:=n;obtain⟨bu,e',s⟩:=k o e;exact⟨bu,e',(s.data λvs c=>Data.noConfusion<|d.symm.trans c).1.trans d⟩
structure bt(r r':ax):Prop where
 mono:dq r r'
 keep:∀a,r.T a=.no->c9 r.h r'.h a
 no:∀a,r.T a=.no->bA r.h a->r'.T a=.no
 fr:∀a,r.T a=.fr↔(r'.T a=.fr/\bA r.h a)
 bO:∀a i,r.T a=.bO i->r'.T a=.bO i
theorem bt.refl{r:ax}(l:∀a,r.T a≠.no->bA r.h a):bt r r:=⟨.refl,λx x=>.of λx e=>e,λx h x=>h,λa=>⟨λe=>⟨e,l a λq=>Tag.noConfusion<|e.symm.trans q⟩,λe=>e.1⟩,λx x e=>e⟩
theorem bt.trans{r:ax}(x:bt r r')(y:bt r' bz)(l:∀a,r.T a≠.no->bA r.h a)(d:∀a,r'.T a≠.no->bA r'.h a):bt r bz where
 mono:=x.mono.trans y.mono
 keep:=λa h=>by
  rcases κ:r.h.get? a with _|o
  ·intro o e;exact cR<|κ.symm.trans e
  ·exact(x.keep a h).trans<|y.keep a<|x.no a h ⟨o,κ⟩
 no:=λa h q=>y.no a (x.no a h q)<|(x.keep a h).live q
 fr:=λa=>⟨λe=>⟨((y.fr a).mp ((x.fr a).mp e).1).1,l a λq=>Tag.noConfusion<|e.symm.trans q⟩,And.rec λe q=>by
  refine(x.fr a).mpr ⟨?_,q⟩
  refine(y.fr a).mpr ⟨e,?_⟩
  cases b:r.T a with
  |no=>exact(x.keep a b).live q
  |z o=>exact d a λc=>Tag.noConfusion<|(x.mono.z a o b).symm.trans c
  |bO i=>exact d a λc=>Tag.noConfusion<|(x.bO a i b).symm.trans c
  |fr=>exact d a λc=>Tag.noConfusion<|((x.fr a).mp b).1.symm.trans c⟩
 bO:=λa i e=>y.bO a i<|x.bO a i e
variable {ro:c2}
theorem cT.keep{r:ax}{i:Nat}{m:Ξ}(x:cT G r i ro m)(h:dq r r')(k:∀b,r.T b=.bO i->r'.T b=.bO i/\∀o,r.h.get? b=some o->r'.h.get? b=some o):cT G r' i ro m:=by
 cases x with
 |lst t e g=>exact .lst (k _ t).1 ((k _ t).2 _ e)<|g.mono h
 |obj t j f g l p=>
  refine .obj (k _ t).1 (λcz e=>(k _<|j cz e).1) ⟨?_,f.no,λcz e=>?_⟩ (g.imp λz z y=>y.mono h) l ?_
  ·obtain⟨o,e,q⟩:=f.ex;exact⟨o,(k _ t).2 _ e,q⟩
  ·exact⟨(f.dict cz e).1,(f.dict cz e).2.at (k _<|j cz e).2⟩
  ·obtain⟨o,e,q⟩:=p;exact⟨o,(k _ t).2 _ e,q⟩
structure Out(S:Addr->Prop)(r r':ax):Prop where
 t:∀b,¬S b->r'.T b=r.T b
 h:∀b,¬S b->∀o,r.h.get? b=some o->r'.h.get? b=some o
 g:r'.s.gens=r.s.gens
 os:r'.s.os=r.s.os
structure t5(r r':ax)(b:Addr):Prop where
 z:∀o,r.T b≠.z o
 Zp:∀o,r'.T b=.z o->r'.h.get? b=some o
 bO:∀i,r.T b≠.bO i
 l:r'.T b≠.no->bA r'.h b
 acu:∀i,r'.T b≠.bO i
variable {S:Addr->Prop}
theorem Out.mono{r:ax}(x:Out S r r')(f:∀b,S b->t5 r r' b)(m:r'.a6=r.a6):dq r r':=⟨λa o e=>by
 by_cases q:S a
 ·exact((f a q).z o e).elim
 ·rw[x.t a q];exact e,λi y e=>by rw[m];exact e⟩
variable {σ:List Ξ}
theorem ae0.chg{r:ax}(b:ae0 G r σ)(x:Out S r r')(f:∀b,S b->t5 r r' b)(m:r'.a6=r.a6):ae0 G r' σ:=by
 have d:=x.mono f m
 refine⟨λa o e=>d.z _ _<|b.i1 a o e,λa o e=>?_,by rw[m];exact b.len,λi ro g j h=>(b.roots i ro g (m▸j) h).keep d λc t=>?_,λa q=>?_,x.g.trans b.gens,x.os.trans b.os,λa i e=>by
  by_cases s:S a
  ·exact((f a s).acu i e).elim
  ·rw[m];exact b.lH a i<|(x.t a s).symm.trans e⟩
 ·by_cases q:S a
  ·exact(f a q).Zp o e
  ·exact x.h a q o<|b.fy a o<|x.t a q▸e
 ·have q:¬S c:=λq=>(f c q).bO i t;exact⟨(x.t c q).trans t,x.h c q⟩
 ·by_cases s:S a
  ·exact(f a s).l q
  ·obtain⟨o,e⟩:=b.live a<|x.t a s▸q;exact⟨o,x.h a s o e⟩
structure aeY where
 scope:Scope
 names:List Str
structure d8 where
 G:aB
 K:Nat
 ai:aeY
structure Fr(s:d8)where
 A:Around
 env:Env
structure oi(K:Nat)(A:Around):Prop where
 handled:A.handled=none
 depth:A.depth+K<=700
 units:A.units+8*K<=9000
variable {K gQ:Nat}{A:Around}
theorem oi.less(h:oi K A)(l:gQ<=K):oi gQ A:=⟨h.handled,Nat.le_trans (Nat.add_le_add_left l _) h.depth,Nat.le_trans (Nat.add_le_add_left (mul_le_mul_left 8 l) _) h.units⟩
structure oZ(r:ax)(env:Env):Prop where
 kind:env.scope.kind≠.module
 frame:env.frame=some env.locals
 ns:∃m,r.h.Ns env.locals m
 tag:r.T env.locals=.no\/r.T env.locals=.fr
structure Frs(A:Around)(r:ax):Prop where
 ex:∃l,A.frames=some l/\∀env∈l,oZ r env
structure Xk{s:d8}(c:Fr s):Prop where
 scope:c.env.scope=s.ai.scope
 kind:s.ai.scope.kind=.function
 globals:c.env.globals=mainGlobals
 builtins:c.env.builtins=builtinsNs
 nodup:s.ai.names.Nodup
 DF:∀n∈s.ai.names,(n==("__classdict__":Str))=false
 apart:∀n cW k,c.env.cells.lookup n=some k->c.env.cells.lookup cW=some k->n=cW
inductive nA{s:d8}(c:Fr s)(r:ax)(m:Str->Option Value)(n:Str)(w:Option Value):Prop
 |loc:s.ai.scope.names.lookup n=some .local->m n=w->nA c r m n w
 |cell {k:Addr}:s.ai.scope.names.lookup n=some .cell->c.env.cells.lookup n=some k->r.h.IsCell k w->(r.T k=.fr\/r.T k=.no/\(s.ai.scope.names.lookup (".0":Str)).isSome=true)->nA c r m n w
structure t8{s:d8}(c:Fr s)(ρ:List<|Option ζ)(r:ax):Prop where
 len:ρ.length=s.ai.names.length
 tag:r.T c.env.locals=.fr
 ex:∃m,r.h.Ns c.env.locals m/\∀(i:Nat) n p,s.ai.names[i]?=some n->ρ[i]?=some p->∃w,nA c r m n w/\hy s.G r p w
structure aL{s:d8}(c:Fr s)(a:aD)(r:ax):Prop where
 ij:oi s.K c.A
 top:s.ai.scope.names.lookup (".0":Str)=none->∃l,c.A.frames=some (c.env::l)
 ok:Xk c
 base:ae0 s.G r a.σ
 vars:t8 c a.ρ r
 mX:Frs c.A r
variable {s:d8}{ρ:List<|Option ζ}
theorem t8.keep{c:Fr s}{r:ax}(x:t8 c ρ r)(u:dq r r')(k:∀b,r.T b=.no\/r.T b=.fr->bA r.h b->r'.T b=r.T b/\c9 r.h r'.h b):t8 c ρ r':=by
 refine Θ λl=>?_
 obtain⟨m,f,j⟩:=x.ex
 have A:bA r.h c.env.locals:=let⟨o,_,_,e,_⟩:=f;⟨o,e⟩
 obtain⟨dH,dD⟩:=k _ (.inr x.tag) A
 refine l ⟨x.len,dH.trans x.tag,m,dD.ns f,λi n p y z=>?_⟩
 obtain⟨w,v,q⟩:=j i n p y z
 refine⟨w,?_,q.mono u⟩
 refine Θ λg=>?_
 cases v with
 |loc a b=>exact g<|.loc a b
 |cell a b d t=>obtain⟨d9,h⟩:=k _ (t.elim .inr λq=>.inl q.1) (let⟨o,e,_⟩:=d;⟨o,e⟩);exact g<|.cell a b (h.cell d)<|d9▸t
variable {env:Env}
theorem oZ.keep{r:ax}(x:oZ r env)(k:∀b,r.T b=.no\/r.T b=.fr->bA r.h b->(r'.T b=.no\/r'.T b=.fr)/\c9 r.h r'.h b):oZ r' env:=by obtain⟨m,c⟩:=x.ns;obtain⟨dH,dD⟩:=k _ x.tag (let⟨o,_,_,e,_⟩:=c;⟨o,e⟩);exact⟨x.kind,x.frame,⟨m,dD.ns c⟩,dH⟩
theorem Frs.keep{r:ax}(x:Frs A r)(k:∀b,r.T b=.no\/r.T b=.fr->bA r.h b->(r'.T b=.no\/r'.T b=.fr)/\c9 r.h r'.h b):Frs A r':=by obtain⟨l,e,h⟩:=x.ex;exact⟨l,e,λenv m=>(h env m).keep k⟩
noncomputable def kq:Tag->Tag
 |.fr=>.no
 |t=>t
def ax.hide(r:ax):ax:=⟨r.s,λa=>kq<|r.T a,r.a6⟩
noncomputable def gv:Tag->Tag->Tag
 |.fr,_=>.fr
 |_,t=>t
def ax.back(r' r:ax):ax:=⟨r'.s,λa=>gv (r.T a)<|r'.T a,r'.a6⟩
theorem s7{t:Tag}:kq t=.z o↔t=.z o:=by cases t<;>simp[kq]
theorem pE{t:Tag}{i:Nat}:kq t=.bO i↔t=.bO i:=by cases t<;>simp[kq]
theorem gz{t:Tag}:kq t≠.fr:=by cases t<;>simp[kq]
theorem fv{t:Tag}:kq t=.no↔t=.no\/t=.fr:=by cases t<;>simp[kq]
theorem eX{r:ax}:dq r r.hide:=⟨λx x e=>s7.mpr e,λx x e=>e⟩
theorem ae0.hide{r:ax}(b:ae0 G r σ):ae0 G r.hide σ:=⟨λa o e=>s7.mpr<|b.i1 a o e,λa o e=>b.fy a o<|s7.mp e,b.len,λi ro m f d=>(b.roots i ro m f d).keep eX λc t=>⟨pE.mpr t,λx e=>e⟩,λa q=>b.live a λe=>q<|fv.mpr<|.inl e,b.gens,b.os,λa i e=>b.lH a i<|pE.mp e⟩
theorem Frs.hide{r:ax}(x:Frs A r):Frs A r.hide:=x.keep λb t l=>⟨.inl<|fv.mpr t,.of λy e=>e⟩
theorem bt.back{r:ax}(st:bt r.hide r')(l:∀a,r.T a≠.no->bA r.h a):bt r (r'.back r)where
 mono:=⟨λa o e=>by show gv (r.T a) _=_;rw[e];exact st.mono.z a o<|s7.mpr e,st.mono.m⟩
 keep:=λa e=>st.keep a<|fv.mpr<|.inl e
 no:=λa e q=>by show gv (r.T a) _=_;rw[e];exact st.no a (fv.mpr<|.inl e) q
 fr:=λa=>⟨λe=>⟨by show gv (r.T a) _=_;rw[e];rfl,l a λq=>Tag.noConfusion<|e.symm.trans q⟩,And.rec λe q=>by
  have e:gv (r.T a) (r'.T a)=.fr:=e
  cases b:r.T a with
  |fr=>rfl
  |_=>rw[b]at e;exact(gz<|(st.fr a).mpr ⟨e,q⟩).elim⟩
 bO:=λa i e=>by show gv (r.T a) _=_;rw[e];exact st.bO a i<|pE.mpr e
theorem l6{r:ax}(st:bt r.hide r')(l:∀a,r.T a≠.no->bA r.h a):(∀a,r.T a=.fr->r'.T a=.no)/\dq r' (r'.back r):=by
 have h:∀a,r.T a=.fr->r'.T a=.no:=λa e=>st.no a (fv.mpr<|.inr e)<|l a λq=>Tag.noConfusion<|e.symm.trans q
 refine⟨h,λa o e=>?_,λx x e=>e⟩
 refine(?_:gv (r.T a) _=_)
 cases b:r.T a with
 |fr=>exact Tag.noConfusion<|(h a b).symm.trans e
 |_=>exact e
variable {σ':List Ξ}
theorem ae0.back{r:ax}(b':ae0 G r' σ')(st:bt r.hide r')(l:∀a,r.T a≠.no->bA r.h a):ae0 G (r'.back r) σ':=by
 obtain⟨h,d⟩:=l6 st l;refine⟨λa o e=>d.z _ _<|b'.i1 a o e,λa o e=>?_,b'.len,λi ro m g f=>(b'.roots i ro m g f).keep d λc t=>⟨?_,λx e=>e⟩,λa q=>?_,b'.gens,b'.os,λa i e=>?_⟩
 ·have e:gv (r.T a) (r'.T a)=.z o:=e;cases b:r.T a with
  |fr=>rw[b]at e;cases e
  |_=>rw[b]at e;exact b'.fy a o e
 ·show gv (r.T c) _=_;cases b:r.T c with
  |fr=>exact Tag.noConfusion<|(h c b).symm.trans t
  |_=>exact t
 ·have q:gv (r.T a) (r'.T a)≠.no:=q;cases b:r.T a with
  |fr=>exact(st.keep a<|fv.mpr<|.inr b).live<|l a λq=>Tag.noConfusion<|b.symm.trans q
  |_=>rw[b]at q;exact b'.live a q
 ·have e:gv (r.T a) (r'.T a)=.bO i:=e;cases b:r.T a with
  |fr=>rw[b]at e;cases e
  |_=>rw[b]at e;exact b'.lH a i e
theorem bt.tags{r:ax}(st:bt r r')(l:∀a,r.T a≠.no->bA r.h a)(b:Addr)(t:r.T b=.no\/r.T b=.fr)(q:bA r.h b):r'.T b=r.T b:=by
 rcases t with t|t
 ·rw[t];exact st.no b t q
 ·rw[t];exact((st.fr b).mp t).1
variable {a:aD}
theorem aL.call{c:Fr s}{r:ax}(g:aL c a r)(b':ae0 s.G r' σ')(st:bt r.hide r'):aL c ⟨a.ρ,σ'⟩<|r'.back r:=by have e:=st.back g.base.live;have d:∀b,r.T b=.no\/r.T b=.fr->bA r.h b->(r'.back r).T b=r.T b/\c9 r.h (r'.back r).h b:=λb t q=>⟨e.tags g.base.live b t q,st.keep b<|fv.mpr t⟩;exact⟨g.ij,g.top,g.ok,b'.back st g.base.live,g.vars.keep e.mono d,g.mX.keep λb t q=>⟨(d b t q).1▸t,(d b t q).2⟩⟩
theorem aL.chg{c:Fr s}{r:ax}(g:aL c a r)(x:Out S r r')(f:∀b,S b->t5 r r' b)(m:r'.a6=r.a6)(k:∀b,S b->r.T b=.no/\((∀m,¬r.h.Ns b m)\/∀l,c.A.frames=some l->∀env∈l,env.locals≠b)/\∀w,¬r.h.IsCell b w):aL c a r':=by
 obtain⟨C,D,E⟩:=g.vars.ex;have G:=x.mono f m;have z:¬S c.env.locals:=λq=>Tag.noConfusion<|(k _ q).1.symm.trans g.vars.tag;refine⟨g.ij,g.top,g.ok,g.base.chg x f m,⟨g.vars.len,(x.t _ z).trans g.vars.tag,C,D.at<|x.h _ z,λi n p H I=>?_⟩,?_⟩
 ·obtain⟨w,v,q⟩:=E i n p H I;refine⟨w,?_,q.mono G⟩;refine Θ λB=>?_;cases v with
  |loc a b=>exact B<|.loc a b
  |cell a b d t=>have j:=λq=>(k _ q).2.2 _ d;obtain⟨o,e,d⟩:=d;exact B<|.cell a b ⟨o,x.h _ j o e,d⟩<|(x.t _ j)▸t
 ·obtain⟨l,e,h⟩:=g.mX.ex;refine⟨l,e,λenv u=>?_⟩;have F:=h env u;obtain⟨m',A⟩:=F.ns;have j:¬S env.locals:=λq=>(k _ q).2.1.elim (λy=>y m' A) λy=>y l e env u rfl;exact⟨F.kind,F.frame,⟨m',A.at<|x.h _ j⟩,by rw[x.t _ j];exact F.tag⟩
inductive OX(h:Heap)(T:Addr):Prop
 |mk (oO cC:_):h.get? T=some oO->oO.data=.fields cC->oO.cls=.type "traceback"->cC[3]?=some .none->OX h T
structure Xu(r:ax)(e T:Addr):Prop where
 ex:OX r.h T
 ne:T≠e
 tag:r.T T=.no\/r.T T=.fr
inductive Flying(G:aB)(k:Nat)(r:ax):Value->Prop
 |mk (e d:Addr) (ig:Obj) (vs:Array Value) (m:Str->Option Value) (t:Tok):r.h.get? e=some ig->ig.cls=.ref (G.cls 0)->ig.dict=some d->ig.data=.fields vs->(r.T e=.no\/r.T e=.fr)->(vs[1]?=some .none\/∃T,vs[1]?=some (.ref T)/\Xu r e T)->
  (∀h,Ci r h->h.Ns1 d m)->m "symbol"=some (.str (strOf k) t)->Flying G k r (.ref e)
variable {a':aD}{E Q:Value->Shared->Prop}{k:Nat}{pos:Pos}{e t:Expr}{dl dr d:Den}{es:List Expr}{hb:Type}
section
variable {c:Fr s}
def bM(c:Fr s)(r:ax)(R:ax->β->α->Prop)(d:Res β)(Q:α->Shared->Prop)(E:Value->Shared->Prop):Prop:=match d with
 |.stuck=>False
 |.ok b a=>∀x r',aL c a r'->bt r r'->R r' b x->Q x r'.s
 |.err k a=>∀v r',aL c a r'->bt r r'->Flying s.G k r' v->E v r'.s
def aP(s:d8)(t:Env->Sem α)(d:aD->Res β)(R:ax->β->α->Prop):Prop:=∀(c:Fr s) a r Q E,aL c a r->bM c r R (d a) Q E->wpAny s.G.M c.A (t c.env) Q E r.s
theorem aL.fi{r:ax}(g:aL c a r)(b:aL c a' r')(x:bt r r')(y:bt r' bz):bt r bz:=x.trans y g.base.live b.base.live
theorem aL.refl{r:ax}(g:aL c a r):bt r r:=.refl g.base.live
theorem bM.step{r:ax}{R:ax->β->α->Prop}{d:Res β}{Q:α->Shared->Prop}(h:bM c r R d Q E)(g:aL c a r)(f:aL c a' r')(st:bt r r'):bM c r' R d Q E:=by
 cases d with
 |stuck=>exact h
 |ok b a=>exactλx bz e s b=>h x bz e (g.fi f st s) b
 |err k a=>exactλx bz e s b=>h x bz e (g.fi f st s) b
theorem L8{e f:Type}{t:Sem α}{d:Res β}{R:ax->β->α->Prop}{R':ax->e->f->Prop}{r:ax}{k:β->aD->Res e}{Q:f->Shared->Prop}{W:α->Shared->Prop}(g:aL c a r)(p:bM c r R' (d.bind k) Q E)(h:∀W,bM c r R d W E->wpAny s.G.M c.A t W E r.s)
 (ae1:∀x r' b a',aL c a' r'->bt r r'->R r' b x->bM c r' R' (k b a') Q E->W x r'.s):wpAny s.G.M c.A t W E r.s:=by
 refine h W ?_
 cases d with
 |stuck=>exact p
 |ok b a'=>exactλx r' i st q=>ae1 x r' b a' i st q<|p.step g i st
 |err k a'=>exact p
theorem aP.then{e f:Type}{t:Env->Sem α}{d:aD->Res β}{R:ax->β->α->Prop}{R':ax->e->f->Prop}{r:ax}{k:β->aD->Res e}{Q:f->Shared->Prop}{W:α->Shared->Prop}(h:aP s t d R)(g:aL c a r)(p:bM c r R' ((d a).bind k) Q E)(ae1:∀x r' b a',aL c a' r'->bt r r'->R r' b x->bM c r' R' (k b a') Q E->W x r'.s):wpAny s.G.M c.A (t c.env) W E r.s:=L8 g p (λW q=>h c a r W E g q) ae1
theorem bM.now{r:ax}{R:ax->β->α->Prop}{b:β}{x:α}{Q:α->Shared->Prop}(p:bM c r R (.ok b a) Q E)(g:aL c a r)(h:R r b x):Q x r.s:=p x r g g.refl h
noncomputable def ax.tok(r:ax)(t:Nat):ax:=⟨{r.s with toks:=t},r.T,r.a6⟩
theorem aL.toks{r:ax}(g:aL c a r)(t:Nat):aL c a<|r.tok t:=g.chg (S:=λx=>False) ⟨λx x=>rfl,λx x x e=>e,rfl,rfl⟩ (λx q=>q.elim) rfl λx q=>q.elim
theorem aL.Zc{r:ax}(g:aL c a r)(t:Nat):bt r<|r.tok t:=⟨⟨λx x e=>e,λx x e=>e⟩,λx x=>.of λx e=>e,λx e x=>e,g.refl.fr,λx x e=>e⟩
theorem bM.uM{r:ax}{x:Value}{t:Nat}(h:bM c r (Rel s.G) (.ok p a) Q E)(g:aL c a r)(q:Rel s.G r p x):Q x {r.s with toks:=t}:=h x (r.tok t) (g.toks t) (g.Zc t)<|q.mono ⟨λy y e=>e,λy y e=>e⟩
noncomputable def Res.of(o:Option<|β×aD):Res β:=match o with|some x=>.ok x.1 x.2|none=>.stuck
theorem bM.of{r:ax}{R:ax->β->α->Prop}{o:Option<|β×aD}{Q:α->Shared->Prop}(p:bM c r R (.of o) Q E)(k:∀x,o=some x->bM c r R (.ok x.1 x.2) Q E->P):P:=by
 cases o with
 |none=>exact p.elim
 |some x=>exact k x rfl p
theorem ω{o:Option α}{f:α->Option β}{b:β}(h:o.bind f=some b)(k:∀a,o=some a->f a=some b->P):P:=by
 cases o with
 |none=>exact cR h
 |some a=>exact k a rfl h
theorem bY{q:Prop}[Decidable q]{o:Option α}{b:α}(h:(if q then o else none)=some b)(k:q->o=some b->P):P:=by
 by_cases e:q
 ·exact k e<|(if_pos e).symm.trans h
 ·exact cR<|(if_neg e).symm.trans h
noncomputable abbrev Den:=aD->Res ζ
noncomputable abbrev dP:=aD->Res Bool
noncomputable abbrev aI:=aD->Res (List ζ)
set_option genCtorIdx false in
inductive aS where
 |next
 |ret (p:ζ)
noncomputable abbrev bL:=aD->Res aS
inductive kc(G:aB)(r:ax):aS->Flow->Prop
 |next:kc G r .next .next
 |ret {p:ζ} {v:Value}:Rel G r p v->kc G r (.ret p) (.ret v)
def OR(r:ax)(b x:Bool):Prop:=x=b
abbrev aw(s:d8)(e:Expr)(d:Den):Prop:=aP s (eval e) d<|Rel s.G
abbrev dh(s:d8)(e:Expr)(d:dP):Prop:=aP s (λenv=>isTrue e env<|eval e env) d OR
abbrev gG(s:d8)(ss:List Stmt)(d:bL):Prop:=aP s (execs ss) d<|kc s.G
abbrev a4(s:d8)(t:Stmt)(d:bL):Prop:=aP s (exec t) d<|kc s.G
def gd(p:ζ):Option Int:=p.v none (i:=some)
def k9(p:ζ):Option Bool:=p.v none (b:=some)
theorem EF{k:Int}(h:gd p=some k):p=.int k:=kK (P:=λk=>p=.int k) (by clear h;cases p<;>first|exact trivial|rfl) h
theorem Cm{k:Bool}(h:k9 p=some k):p=.bool k:=kK (P:=λk=>p=.bool k) (by clear h;cases p<;>first|exact trivial|rfl) h
theorem Rel.jl{r:ax}{v:Value}{k:Int}(b:Rel G r p v)(h:gd p=some k):∃t,v=.int k t:=by
 refine Θ λd=>?_
 replace b:=(EF h)▸b
 cases b with
 |int i t=>exact d ⟨t,rfl⟩
theorem Rel.CA{r:ax}{v:Value}{k:Bool}(b:Rel G r p v)(h:k9 p=some k):v=.bool k:=by
 replace b:=(Cm h)▸b
 cases b with
 |bool i=>rfl
noncomputable def eg(p:ζ):Den:=λa=>.ok p a
theorem aw.int{i:Int}:aw s (.Constant (.int i) k pos)<|eg<|.int i:=λc a r Q E g p=>by exact wpAny_mkInt<|p.uM g<|.int i _
theorem aw.U6:aw s (.Constant .none k pos)<|eg .none:=λc a r Q E g p=>by exact ψ<|p.now g .none
theorem aw.bool{b:Bool}:aw s (.Constant (.bool b) k pos)<|eg<|.bool b:=λc a r Q E g p=>by exact ψ<|p.now g<|.bool b
theorem aw.str{x:Str}{j:Nat}(e:strOf j=x):aw s (.Constant (.str x) k pos)<|eg<|.str j:=λc a r Q E g p=>by subst e;exact wpAny_mkText<|p.uM g<|.str j _
def hC(i:Nat):Den:=λa=>.of<|(a.ρ[i]?).bind λo=>o.bind λp=>some (p,a)
theorem aL.h1{r:ax}(g:aL c a r):c.env.scope.kind=.function:=by rw[g.ok.scope];exact g.ok.kind
theorem aL.kindOf{r:ax}(g:aL c a r)(x:Str):c.env.kindOf x=s.ai.scope.names.lookup x:=by show c.env.scope.names.lookup x=_;rw[g.ok.scope]
theorem Nu{r:ax}{n:Str}{i:Nat}(g:aL c a r)(k:s.ai.names[i]?=some n)(p:bM c r (Rel s.G) (hC i a) Q E):wpAny s.G.M c.A (loadName c.env n) Q E r.s:=by
 refine p.of λx A p=>ω A λo d h=>ω h λq e h=>(Θ λf=>?_)
 obtain rfl:=Φ h
 obtain⟨m,t,z⟩:=g.vars.ex
 obtain⟨w,v,l,j⟩:=z i n o k d
 subst e
 obtain⟨y,rfl⟩:=Option.isSome_iff_exists.mp l.symm
 have b:=p.now g<|j q y rfl rfl
 cases v with
 |loc d e=>exact f<|wpAny_loadName_local g.h1 ((g.kindOf n).trans d) t e b
 |cell d e u _=>exact f<|wpAny_loadName_cell g.h1 ((g.kindOf n).trans d) e u b
theorem aw.var{n:Str}{i:Nat}(b:s.ai.names[i]?=some n)(d:(n==("__debug__":Str))=false):aw s (.Name n pos)<|hC i:=λc a r Q E g p=>wpAny_Name (Nu g b p) d
theorem ae0.eW{r:ax}(b:ae0 G r σ):∀a o,G.s.heap.get? a=some o->r.h.get? a=some o:=λa o e=>b.fy _ _<|b.i1 _ _<|G.keep a o e
theorem ae0.ns{r:ax}(b:ae0 G r σ):r.h.Ns mainGlobals G.cJ:=G.T.inv.main.g.at λo e=>b.eW _ _ e
theorem ae0.builtins{r:ax}(b:ae0 G r σ):r.h.Ns builtinsNs G.d0:=by have f:=G.T.fix;exact f.b.at λo e=>b.eW _ _<|G.T.inv.keep _ _ (Nat.lt_trans (show(0:Nat)<3 by decide) f.three) f.A3 (by decide) (by decide) e
theorem lz{r:ax}{x:Str}{v:Value}(g:aL c a r)(h:s.G.cJ x=some v)(d:s.ai.scope.names.lookup x=some .globalImplicit)(b:(x==("__debug__":Str))=false)(q:Q v r.s):wpAny s.G.M c.A (eval (.Name x pos) c.env) Q E r.s:=Name_function_global g.h1 ((g.kindOf x).trans d) (loadGlobal_global ((g.ok.globals)▸g.base.ns) h q) b
theorem jE{r:ax}{x:Str}{v:Value}(g:aL c a r)(d:s.G.cJ x=none)(b:bootBuiltins x=some v)(i:s.ai.scope.names.lookup x=some .globalImplicit)(e:(x==("__debug__":Str))=false)(f:x≠"__name__")(h:Q v r.s):
 wpAny s.G.M c.A (eval (.Name x pos) c.env) Q E r.s:=
 Name_function_global g.h1 ((g.kindOf x).trans i) (loadGlobal_builtin (by rw[g.ok.globals];exact g.base.ns) d (by rw[g.ok.builtins];exact g.base.builtins) (by rw[s.G.T.blt x f];exact b) h) e
def sl(G:aB)(x:Str)(p:ζ):Prop:=∃v,G.cJ x=some v/\∀r σ,ae0 G r σ->Rel G r p v
theorem aw.glob{x:Str}(b:sl s.G x p)(f:s.ai.scope.names.lookup x=some .globalImplicit)(d:(x==("__debug__":Str))=false):aw s (.Name x pos)<|eg p:=λc a r Q E g e=>by obtain⟨v,h,i⟩:=b;exact lz g h f d<|e.now g<|i _ _ g.base
noncomputable abbrev fh:=ζ->ζ->aD->Res ζ
def c6(G:aB)(f:Value->Value->Sem Value)(d:fh):Prop:=∀(s:d8) (c:Fr s) a r p q v w Q E,s.G=G->aL c a r->Rel s.G r p v->Rel s.G r q w->bM c r (Rel s.G) (d p q a) Q E->wpAny s.G.M c.A (f v w) Q E r.s
def mA(d:fh)(dl dr:Den):Den:=λa=>(dl a).bind λp a=>(dr a).bind λq a=>d p q a
theorem aw.bin{op:Operator}{l:Expr}{d:fh}(b:c6 s.G (binaryOp op) d)(o:aw s l dl)(f:aw s e dr):aw s (.BinOp l op e pos)<|mA d dl dr:=λc a r Q E g p=>wpAny_BinOp<|o.then g p λv aX j a1 k q bj p=>f.then k p λw h n a2 m i bX p=>b s c a2 h j n v w Q E rfl m (bj.mono i.mono) bX p
theorem aw.cmp{op:CmpOp}{l:Expr}{d:fh}(b:c6 s.G (compareOp op) d)(q:aw s l dl)(f:aw s e dr)(o:behindInMarks op e=false):aw s (.Compare l [op] [e] pos)<|mA d dl dr:=λc a r Q E g p=>wpAny_Compare1 (q.then g p λv aX j a1 k t bj p=>f.then k p λw h n a2 m i bX p=>b s c a2 h j n v w Q E rfl m (bj.mono i.mono) bX p) o
theorem bind_assoc(x:Res α)(f:α->aD->Res β)(g:β->aD->Res hb):(x.bind f).bind g=x.bind λa σ=>(f a σ).bind g:=by cases x<;>rfl
def af4(p:ζ):Option Bool:=p.v none (n:=some false) (b:=some)
def xX(p:ζ)(a:aD):Res Bool:=.of<|(af4 p).bind λb=>some (b,a)
def qi(d:Den):dP:=λa=>(d a).bind xX
theorem zS{r:ax}{v:Value}{Q:Bool->Shared->Prop}(g:aL c a r)(b:Rel s.G r p v)(h:bM c r OR (xX p a) Q E):wpAny s.G.M c.A (truthy v) Q E r.s:=by
 refine h.of λx e h=>ω e λt d f=>?_
 obtain rfl:=Φ f
 cases b with
 |none=>cases d;exact truthy_none<|h.now g rfl
 |bool b=>cases d;exact wpAny_truthy_bool<|h.now g rfl
 |_=>exact cR d
theorem dh.cmp{op:CmpOp}{l:Expr}{d:fh}(f:c6 s.G (compareOp op) d)(x:aw s l dl)(h:aw s e dr)(t:behindInMarks op e=false):dh s (.Compare l [op] [e] pos)<|qi<|mA d dl dr:=λc a r Q E g p=>by unfold qi mA at p;rw[bind_assoc]at p;refine wpAny_isTrue_Compare1 (x.then g p λv aX k a1 m y bj p=>?_) t;rw[bind_assoc]at p;exact h.then m p λw i o a2 b j bX p=>(L8 b p (λW q=>f s c a2 i k o v w W E rfl b (bj.mono j.mono) bX q) λv A C B n z u p=>zS n u p)
theorem dh.of(h:aw s e d)(f:∀env whole,isTrue e env whole=(do let v←whole;standAt e.pos;holding [v] (truthy v))):dh s e<|qi d:=λc a r Q E g p=>isTrue_plain (h.then g p λv aX j a1 b i bj p=>zS b bj p)<|f _ _
def CS(d:dP):dP:=λa=>(d a).bind λb a=>.ok (!b) a
theorem dh.not{d:dP}(h:dh s e d):dh s (.UnaryOp .Not e pos)<|CS d:=λc a r Q E g p=>
 isTrue_not (h.then g p λx aX b a1 f st e p=>by cases e;exact p.now f rfl)
def CJ(dC d5:dP):dP:=λa=>(dC a).bind λb a=>if b then d5 a else .ok false a
def Ij(dC d5:dP):dP:=λa=>(dC a).bind λb a=>if b then .ok true a else d5 a
noncomputable def XR:dP:=λa=>.ok true a
noncomputable def XQ:dP:=λa=>.ok false a
theorem dh.Xz:dh s (.BoolOp .And [] pos) XR:=λc a r Q E g p=>isTrue_and_nil<|p.now g rfl
theorem dh.acj:dh s (.BoolOp .Or [] pos) XQ:=λc a r Q E g p=>isTrue_or_nil<|p.now g rfl
theorem dh.and{d f:dP}(h:dh s e d)(κ:dh s (.BoolOp .And es pos) f):dh s (.BoolOp .And (e::es) pos)<|CJ d f:=λc a r Q E g p=>
 isTrue_and (h.then g p λx aX b a1 i st e p=>by
  refine Θ λj=>?_
  subst e
  cases x with
  |false=>exact j<|p.now i rfl
  |true=>refine j ?_;exact κ c a1 aX Q E i p)
theorem dh.or{d f:dP}(h:dh s e d)(κ:dh s (.BoolOp .Or es pos) f):dh s (.BoolOp .Or (e::es) pos)<|Ij d f:=λc a r Q E g p=>
 isTrue_or (h.then g p λx aX b a1 i st e p=>by
  refine Θ λj=>?_
  subst e
  cases x with
  |true=>exact j<|p.now i rfl
  |false=>refine j ?_;exact κ c a1 aX Q E i p)
def EZ{β:Type}(t:dP)(dC d5:aD->Res β):aD->Res β:=λa=>(t a).bind λb a=>if b then dC a else d5 a
theorem aw.abG{i d:Expr}{dY:dP}{dC d5:Den}(h:dh s t dY)(k:aw s i dC)(l:aw s d d5):aw s (.IfExp t i d pos)<|EZ dY dC d5:=λc a r Q E g p=>
 IfExp_ (h.then g p λx aX b a1 f st e p=>by
  refine Θ λj=>?_
  subst e
  cases x with
  |true=>exact j<|k c a1 aX Q E f p
  |false=>refine j ?_;exact l c a1 aX Q E f p)
def ie(f:Int->Int->Option ζ):fh:=λp q a=>.of<|(gd p).bind λx=>(gd q).bind λy=>(f x y).bind λz=>some (z,a)
theorem c6.ie{G:aB}{f:Value->Value->Sem Value}{h:Int->Int->Option ζ}(l:∀(A:Around) (s:Shared) (a b:Int) (t u:Tok) (c:ζ) (Q:Value->Shared->Prop) (E:Value->Shared->Prop),h a b=some c->(∀v tk,(∀r,Rel G r c v)->Q v {s with toks:=tk})->wpAny G.M A (f (.int a t)<|.int b u) Q E s):c6 G f<|ie h:=by intro s c a r p q v w Q E e g bj bX i;subst e;refine i.of λx d i=>ω d λx m d=>ω d λy n d=>ω d λz j d=>?_;obtain rfl:=Φ d;obtain⟨t,rfl⟩:=bj.jl m;obtain⟨u,rfl⟩:=bX.jl n;exact l c.A r.s x y t u z Q E j λv tk k=>i.uM g<|k _
def Sn:fh:=ie λa b=>some<|.int<|a-b
def oLt:fh:=ie λa b=>some<|.bool<|decide (a<b)
def oLe:fh:=ie λa b=>some<|.bool<|decide (a<=b)
def hr:fh:=ie λa b=>some<|.bool<|decide (a>b)
def vW:fh:=ie λa b=>some<|.bool<|decide (a>=b)
def LW:fh:=ie λa b=>if b=4 then some (.int<|a.fdiv 4)else none
def af7:fh:=ie λa b=>if b≠0 then some (.int<|a.fmod b)else none
theorem Ru:c6 G (binaryOp .Sub) Sn:=c6.ie λA s a b t u c Q E e h=>P.sub_int<|h _ _ λx=>Φ e▸.int _ _
theorem af1:c6 G (compareOp .Lt) oLt:=c6.ie λA s a b t u c Q E e h=>P.lt_int<|h _ s.toks λx=>Φ e▸.bool _
theorem af5:c6 G (compareOp .LtE) oLe:=c6.ie λA s a b t u c Q E e h=>P.le_int<|h _ s.toks λx=>Φ e▸.bool _
theorem UI:c6 G (compareOp .Gt) hr:=c6.ie λA s a b t u c Q E e h=>P.gt_int<|h _ s.toks λx=>Φ e▸.bool _
theorem UH:c6 G (compareOp .GtE) vW:=c6.ie λA s a b t u c Q E e h=>P.ge_int<|h _ s.toks λx=>Φ e▸.bool _
theorem Rr:c6 G (binaryOp .Mod) af7:=c6.ie λA s a b t u c Q E e h=>bY e λd e=>mod_int' d<|h _ _ λx=>Φ e▸.int _ _
theorem Nb:c6 G (binaryOp .FloorDiv) LW:=c6.ie λA s a b t u c Q E e h=>bY e λd e=>by subst d;exact floordiv_int (of_decide_eq_true rfl)<|h _ _ λx=>Φ e▸.int _ _
end
variable {tk:Nat}{i5:Pos}{ds:aI}
section
variable {c:Fr s}
theorem bt.own{r:ax}(l:∀a,r.T a≠.no->bA r.h a)(x:Out S r r')(t:r'.T=r.T)(m:r'.a6=r.a6)(f:∀b,S b->r.T b=.fr):bt r r' where
 mono:=⟨λa o e=>by rw[t];exact e,λi y e=>by rw[m];exact e⟩
 keep:=λa e=>.of<|x.h a λq=>Tag.noConfusion<|e.symm.trans<|f a q
 no:=λa e z=>by rw[t];exact e
 fr:=λa=>⟨λe=>⟨by rw[t];exact e,l a λq=>Tag.noConfusion<|e.symm.trans q⟩,λe=>by rw[←t];exact e.1⟩
 bO:=λa i e=>by rw[t];exact e
theorem TQ{h:Heap}{a:Addr}{m m':Str->Option Value}(x:h.Ns a m)(y:h.Ns a m')(n:Str):m n=m' n:=by refine Θ λe=>?_;obtain⟨bu,f,b,bj,bX,_,d⟩:=y;obtain⟨o,es,g,a1,a2,_,c⟩:=x;obtain rfl:=Φ<|a1.symm.trans bj;cases a2.symm.trans bX;refine e ?_;rw[←c,d]
theorem aL.put{r:ax}{b:Addr}(g:aL c a r)(d:r.T b=.fr)(j:SameBut b r.h κ)(p:bA κ b)(v:t8 c ρ ⟨{r.s with heap:=κ,toks:=tk},r.T,r.a6⟩)(f:b=c.env.locals\/∀m,¬r.h.Ns b m):
 aL c ⟨ρ,a.σ⟩ ⟨{r.s with heap:=κ,toks:=tk},r.T,r.a6⟩/\bt r ⟨{r.s with heap:=κ,toks:=tk},r.T,r.a6⟩:=by
 have x:Out (·=b) r ⟨{r.s with heap:=κ,toks:=tk},r.T,r.a6⟩:=⟨λw w=>rfl,λy q o e=>(j.2 y q).trans e,rfl,rfl⟩
 refine⟨⟨g.ij,g.top,g.ok,g.base.chg x (λy q=>?_) rfl,v,?_⟩,.own g.base.live x rfl rfl λy q=>q▸d⟩
 ·cases q;exact⟨λo q=>Tag.noConfusion<|d.symm.trans q,λo q=>Tag.noConfusion<|d.symm.trans q,λo q=>Tag.noConfusion<|d.symm.trans q,λw=>p,λi q=>Tag.noConfusion<|d.symm.trans q⟩
 ·obtain⟨l,e,k⟩:=g.mX.ex;refine⟨l,e,λenv h=>?_⟩;have F:=k env h;refine⟨F.kind,F.frame,?_,F.tag⟩;obtain⟨m,n⟩:=F.ns;by_cases q:env.locals=b
  ·rw[q];rcases f with f|f
   ·rw[f];exact v.ex.imp λw z=>z.1
   ·exact(f m<|q▸n).elim
  ·exact⟨m,n.at<|x.h _ q⟩
def HE(ai:aeY)(n:Str):Prop:=ai.scope.names.lookup n=some .local\/(ai.scope.names.lookup (".0":Str)).isSome=false
set_option tactic.hygienic true in
theorem lP{r:ax}{n:Str}{i:Nat}{v:Value}{Q:Unit->Shared->Prop}(g:aL c a r)(C:s.ai.names[i]?=some n)(hw:HE s.ai n)(V:Rel s.G r p v)
 (h:∀r',aL c ⟨a.ρ.set i<|some p,a.σ⟩ r'->bt r r'->Q () r'.s):wpAny s.G.M c.A (storeName c.env n v) Q E r.s:=by
 refine Θ λφ=>?_
 obtain⟨m,D,P⟩:=g.vars.ex
 have T:i<a.ρ.length:=by rw[g.vars.len];exact(b8 C).1
 obtain⟨w,v0,_⟩:=P i n _ C<|b3 T
 refine φ ?_
 have vars:∀(r':ax) m',r'.T=r.T->r'.a6=r.a6->r'.h.Ns c.env.locals m'->nA c r' m' n (some v)->(∀f w,f∈s.ai.names->f≠n->nA c r m f w->nA c r' m' f w)->t8 c (a.ρ.set i<|some p) r':=λr' m' t J G I U=>by
  have S:dq r r':=⟨λa o e=>by rw[t];exact e,λi y e=>by rw[J];exact e⟩;refine⟨by rw[length_set];exact g.vars.len,by rw[t];exact g.vars.tag,m',G,λj f q b l=>?_⟩;by_cases e:i=j
  ·subst e;obtain rfl:=Φ<|C.symm.trans b;rw[List.getElem?_set_self T]at l;obtain rfl:=Φ l;exact⟨some v,I,rfl,λx y Γ X=>by cases Γ;cases X;exact V.mono S⟩
  ·rw[List.getElem?_set_ne e]at l;obtain⟨F,oc,Y⟩:=P j f q b l;exact⟨F,U f F (List.mem_of_getElem? b) (λq=>e<|(getElem?_inj (b8 C).1 g.ok.nodup).mp<|C.trans<|q▸b.symm) oc,Y.mono S⟩
 cases v0 with
 |loc b l=>
  refine wpAny_storeName_local ((g.kindOf n).trans b) D (λκ G A=>?_) (by rw[g.h1];rfl);refine And.elim (λK st=>h _ K st)<|g.put g.vars.tag A (let⟨o,_,_,e,_⟩:=G;⟨o,e⟩) (vars ⟨{r.s with heap:=κ,toks:=r.s.toks+1},r.T,r.a6⟩ _ rfl rfl G (.loc b<|if_pos rfl) λf F W B x=>?_)<|.inl rfl
  ·cases x with
   |loc z u=>exact .loc z<|(if_neg B).trans u
   |cell z u M H=>refine Θ λZ=>?_;obtain⟨o,e,d⟩:=M;obtain⟨bu,es,hD,e',L,_⟩:=D;refine Z ?_;exact .cell z u ⟨o,(A.2 _ λq=>by rw[q]at e;cases e.symm.trans e';exact Data.noConfusion<|d.symm.trans L).trans e,d⟩ H
 |cell b l O R=>
  rename_i k;have tk:=R.elim id λq=>(hw.elim (λy=>nomatch y.symm.trans b) λy=>Bool.noConfusion<|y.symm.trans q.2);have B:∀m,¬r.h.Ns k m:=λm ⟨bu,es,hD,e',L,α⟩=>let⟨o,e,d⟩:=O;by cases e.symm.trans e';exact Data.noConfusion<|d.symm.trans L
  refine wpAny_storeName_cell g.h1 ((g.kindOf n).trans b) l O λκ N A=>?_;have dZ:c.env.locals≠k:=λq=>B m<|q▸D;refine And.elim (λK st=>h _ K st)<|g.put tk A (let⟨o,e,_⟩:=N;⟨o,e⟩) (vars ⟨{r.s with heap:=κ,toks:=r.s.toks},r.T,r.a6⟩ m rfl rfl (D.at λo e=>(A.2 _ dZ).trans e) (.cell b l N R) λf F W B x=>?_)<|.inr B
  ·cases x with
   |loc z u=>exact .loc z u
   |cell z u M H=>obtain⟨o,e,d⟩:=M;exact .cell z u ⟨o,(A.2 _ λq=>B<|g.ok.apart _ _ _ (q▸u) l).trans e,d⟩ H
def xV(dC d5:bL):bL:=λa=>(dC a).bind λf a=>match f with
 |.next=>d5 a
 |.ret p=>.ok (.ret p) a
noncomputable def qh:bL:=λa=>.ok .next a
theorem gG.nil:gG s [] qh:=λc a r Q E g p=>wpAny_execs_nil<|p.now g .next
theorem gG.cons{t:Stmt}{f:List Stmt}{dC d5:bL}(h:a4 s t dC)(i:gG s f d5):gG s (t::f)<|xV dC d5:=λc a r Q E g p=>
 wpAny_execs_cons (h.then g p λx aX b a1 d st e p=>by
  cases e with
  |next=>exact i c a1 aX Q E d p
  |ret e=>exact p.now d<|.ret e)
theorem a4.if{d f:List Stmt}{dY:dP}{dC d5:bL}(h:dh s t dY)(k:gG s d dC)(l:gG s f d5):a4 s (.If t d f pos)<|EZ dY dC d5:=λc a r Q E g p=>
 wpAny_If (h.then g p λx aX b a1 i st e p=>by
  refine Θ λj=>?_
  subst e
  cases x with
  |true=>exact j<|k c a1 aX Q E i p
  |false=>refine j ?_;exact l c a1 aX Q E i p)
theorem a4.pass:a4 s (.Pass pos) qh:=λc a r Q E g p=>wpAny_Pass<|p.now g .next
theorem a4.YT:a4 s (.Return none pos) λa=>.ok (.ret .none) a:=λc a r Q E g p=>wpAny_Return_none<|p.now g<|.ret .none
def Il(d:Den):bL:=λa=>(d a).bind λp a=>.ok (.ret p) a
theorem a4.ret(h:aw s e d):a4 s (.Return (some e) pos)<|Il d:=λc a r Q E g p=>wpAny_Return_some<|h.then g p λx aX b a1 f st e p=>p.now f<|.ret e
def CT(i:Nat)(d:Den):bL:=λa=>(d a).bind λp a=>.ok .next ⟨a.ρ.set i<|some p,a.σ⟩
theorem a4.assign{x:Str}{i:Nat}(h:aw s e d)(f:s.ai.names[i]?=some x)(n:HE s.ai x)(j:∀env,env.scope=s.ai.scope->swapsWith e (some<|.Name x i5) pos.line env=pure false):a4 s (.Assign [.Name x i5] e pos)<|CT i d:=λc a r Q E g p=>wpAny_Assign_Name (h.then g p λv aX b a1 l st e p=>lP l f n e λr' k m=>p .next r' k m .next)<|j _ g.ok.scope
def CN(d:Den):bL:=λa=>(d a).bind λx a=>.ok .next a
theorem a4.expr(h:aw s e d)(i:∀env,swapsWith e none pos.line env=pure false):a4 s (.Expr e pos)<|CN d:=λc a r Q E g p=>by
 have f:interactive c.env=false:=by unfold interactive;refine g.h1▸?_;rfl
 exact wpAny_Expr_any (h.then g p λv aX b a1 j st e p=>p.now j .next) f<|i _
def eb(s:d8)(es:List Expr)(d:aI):Prop:=∀pos,aP s (λenv=>spliced<|backTo pos<|starEach es env) d<|bV s.G
noncomputable def Ii:aI:=λa=>.ok [] a
def CM(d:Den)(ds:aI):aI:=λa=>(d a).bind λp a=>(ds a).bind λps a=>.ok (p::ps) a
theorem eb.nil:eb s [] Ii:=λpos c a r Q E g p=>args_nil<|p.now g .nil
theorem eb.cons(h:aw s e d)(f:eb s es ds)(l:∀env,starEach (e::es) env=(false,eval e env)::starEach es env):eb s (e::es)<|CM d ds:=λpos c a r Q E g p=>args_cons (h.then g p λv aX b a1 j m e p=>(f pos).then j p λvs n bs a2 k i es p=>p.now k<|.cons (e.mono i.mono) es)<|l _
end
variable {D:Addr}{n:Nat}{prog:Program}
section
variable {c:Fr s}
noncomputable def upd(T:Addr->Tag)(D:Addr)(t:Tag):Addr->Tag:=λx=>if x=D then t else T x
theorem cy{T:Addr->Tag}{t:Tag}:upd T D t D=t:=if_pos rfl
theorem b7{T:Addr->Tag}{t:Tag}{b:Addr}(h:b≠D):upd T D t b=T b:=if_neg h
theorem ae0.no{r:ax}(b:ae0 G r σ){a:Addr}(d:cx r.h a):r.T a=.no:=Classical.byContradiction λq=>(b.live a q).ne d
theorem bt.fresh{r:ax}(b:∀a,r.T a≠.no->bA r.h a)(x:Out S r r')(c:dq r r')(d:∀a,S a->cx r.h a):bt r r' where
 mono:=c
 keep:=λa e=>.of λo q=>x.h a (λt=>bA.ne ⟨o,q⟩<|d a t) o q
 no:=λa e l=>(x.t a λt=>l.ne<|d a t).trans e
 fr:=λa=>⟨λe=>have l:=b a λq=>Tag.noConfusion<|e.symm.trans q;⟨(x.t a λt=>l.ne<|d a t).trans e,l⟩,λe=>(x.t a λt=>e.2.ne<|d a t).symm.trans e.1⟩
 bO:=λa i e=>(x.t a λt=>(b a λq=>Tag.noConfusion<|e.symm.trans q).ne<|d a t).trans e
theorem Sb{h:Heap}{a:Addr}(d:cx h a)(m:Str->Option Value):¬h.Ns a m:=λb=>b.elim λo c=>c.elim λx f=>f.elim λx g=>g.elim λe x=>bA.ne ⟨o,e⟩ d
theorem JC{h:Heap}{a:Addr}(d:cx h a)(w:Option Value):¬h.IsCell a w:=λb=>b.elim λo c=>c.elim λe x=>bA.ne ⟨o,e⟩ d
theorem aL.grow{r:ax}(g:aL c a r){t:Tag}(k:∀b o,r.h.get? b=some o->κ.get? b=some o)(d:cx r.h D)(j:t=.no\/∃o,t=.z o/\κ.get? D=some o):
 aL c a ⟨{r.s with heap:=κ,toks:=tk},upd r.T D t,r.a6⟩/\bt r ⟨{r.s with heap:=κ,toks:=tk},upd r.T D t,r.a6⟩:=by
 have x:Out (·=D) r ⟨{r.s with heap:=κ,toks:=tk},upd r.T D t,r.a6⟩:=⟨λb q=>b7 q,λb y o e=>k b o e,rfl,rfl⟩
 have f:∀b,b=D->t5 r ⟨{r.s with heap:=κ,toks:=tk},upd r.T D t,r.a6⟩ b:=λb q=>by
  cases q;refine⟨λo q=>Tag.noConfusion<|(g.base.no d).symm.trans q,λo q=>?_,λo q=>Tag.noConfusion<|(g.base.no d).symm.trans q,λq=>?_,λi q=>j.elim (λe=>Tag.noConfusion<|e.symm.trans<|cy.symm.trans q) λm=>m.elim λbu n=>n.elim λe h=>Tag.noConfusion<|e.symm.trans<|cy.symm.trans q⟩
  ·rcases j with e|⟨bu,e,h⟩
   ·exact Tag.noConfusion<|e.symm.trans<|cy.symm.trans q
   ·cases e.symm.trans (cy.symm.trans q);exact h
  ·rcases j with e|⟨bu,e,h⟩
   ·exact(q<|cy.trans e).elim
   ·exact⟨_,h⟩
 exact⟨g.chg x f rfl λb q=>by subst q;exact⟨(g.base.no d),.inl<|Sb d,JC d⟩,.fresh g.base.live x (x.mono f rfl) λb q=>q▸d⟩
theorem aL.push{r:ax}(g:aL c a r):aL c a ⟨{r.s with heap:=r.h.push o,toks:=tk},upd r.T r.h.objs.size .no,r.a6⟩/\bt r ⟨{r.s with heap:=r.h.push o,toks:=tk},upd r.T r.h.objs.size .no,r.a6⟩:=g.grow (λb bu e=>get?_push_of_some _ e) (dd<|Nat.le_refl _)<|.inl rfl
theorem aL.LY{r:ax}(g:aL c a r)(d:o.isFreed=false):aL c a ⟨{r.s with heap:=r.h.push o,toks:=tk},upd r.T r.h.objs.size<|.z o,r.a6⟩/\bt r ⟨{r.s with heap:=r.h.push o,toks:=tk},upd r.T r.h.objs.size<|.z o,r.a6⟩:=g.grow (λb bu e=>get?_push_of_some _ e) (dd<|Nat.le_refl _)<|.inr ⟨o,rfl,get?_push_size _ d⟩
theorem bM.list{r:ax}(p:bM c r (Rel s.G) (.ok (.list xs) a) Q E)(g:aL c a r)(d:bV s.G r xs vs)(k:∀b o,r.h.get? b=some o->κ.get? b=some o)(h:cx r.h D)
 (e:κ.get? D=some (bW vs n)):Q (.ref D) {r.s with heap:=κ,toks:=tk}:=by
 obtain⟨f,st⟩:=g.grow k h<|.inr ⟨_,rfl,e⟩
 exact p _ _ f st<|.list cy (d.mono st.mono).len (d.mono st.mono).get
theorem bM.newList{r:ax}(p:bM c r (Rel s.G) (.ok (.list xs) a) Q E)(g:aL c a r)(d:bV s.G r xs vs):Q (.ref r.h.objs.size) {r.s with heap:=r.h.push<|bW vs 0,toks:=tk}:=p.list g d (λb bu e=>get?_push_of_some _ e) (dd<|Nat.le_refl _)<|get?_push_size _ rfl
theorem bM.R4{r:ax}(p:bM c r (Rel s.G) (.ok (.tup xs) a) Q E)(g:aL c a r)(b:bV s.G r xs vs):Q (.ref r.h.objs.size) {r.s with heap:=r.h.push<|lR vs,toks:=tk}:=by obtain⟨d,st⟩:=g.LY (o:=lR vs) rfl;exact p _ _ d st<|.tup cy (b.mono st.mono).len (b.mono st.mono).get
noncomputable def dv:Ξ->Option (List ζ)
 |.lst xs=>some xs
 |_=>none
def view(a:aD)(p:ζ):Option<|List ζ:=p.v none (l:=some) (r:=λi=>(a.σ[i]?).bind dv)
theorem ae0.root{r:ax}(b:ae0 G r σ){i:Nat}{m:Ξ}{x:Addr}(e:σ[i]?=some m)(h:(r.a6[i]?).map c2.addr=some x):oX (λro=>r.a6[i]?=some ro) (λro=>ro.addr=x) λro=>cT G r i ro m:=by obtain⟨ro,c,d⟩:=Option.map_eq_some_iff.mp h;exact⟨ro,c,d,b.roots i ro m c e⟩
inductive Ez(G:aB)(r:ax)(v:Value)(xs:List ζ):Prop
 |mk (x vs n:_):v=.ref x->r.h.get? x=some (bW vs n)->bV G r xs vs->Ez G r v xs
theorem aL.view{a:aD}{r:ax}{p:ζ}{v:Value}{xs:List ζ}(g:aL c a r)(b:Rel s.G r p v)(e:view a p=some xs):Ez s.G r v xs:=by
 refine Θ λd=>?_
 cases p with
 |list ys=>
  obtain rfl:=Φ e
  cases b with
  |list h l k=>exact d ⟨_,_,_,rfl,g.base.fy _ _ h,l,k⟩
 |ref i=>
  refine d<|ω e λm t f=>?_
  clear d
  clear e
  cases m with
  |obj=>exact cR f
  |lst ys=>
   obtain rfl:=Φ f
   cases b with
   |ref h=>
    obtain⟨ro,w,j,q⟩:=g.base.root t h
    cases q with
    |lst u n o=>cases j;exact⟨_,_,_,rfl,n,o⟩
 |_=>exact d<|cR e
theorem jW{h:Heap}{x:Addr}(e:h.get? x=some (bW vs n)):h.IsList x vs.toArray:=⟨_,e,rfl,n,rfl⟩
def nD(p:ζ):Option<|List ζ:=p.v none (t:=some)
def items(a:aD)(p:ζ):Option<|List ζ:=(nD p).or<|view a p
theorem jO(h:nD p=some xs):p=.tup xs:=kK (P:=λxs=>p=.tup xs) (by clear h;cases p<;>first|exact trivial|rfl) h
inductive AS(G:aB)(r:ax)(v:Value)(xs:List ζ):Prop
 |mk (x vs:_):v=.ref x->bV G r xs vs->((∃n,r.h.get? x=some (bW vs n))\/r.h.get? x=some (lR vs))->AS G r v xs
theorem aL.items{a:aD}{r:ax}{p:ζ}{v:Value}{xs:List ζ}(g:aL c a r)(b:Rel s.G r p v)(e:items a p=some xs):AS s.G r v xs:=by
 refine Θ λd=>?_
 unfold Internal.items at e
 cases h:nD p with
 |none=>replace e:=h▸e;obtain⟨x,vs,n,i,j,f⟩:=g.view b e;exact d ⟨x,vs,i,f,.inl ⟨n,j⟩⟩
 |some ys=>
  replace e:=h▸e
  obtain rfl:=Φ e
  replace b:=(jO h)▸b
  cases b with
  |tup h l k=>exact d ⟨_,_,rfl,⟨l,k⟩,.inr<|g.base.fy _ _ h⟩
def tx:fh:=λp q a=>.of<|(view a p).bind λxs=>(view a q).bind λys=>if xs.length+ys.length<=sizeLine then some (.list<|xs++ys,a)else none
theorem Na:c6 G (binaryOp .Add) tx:=λs c a r p q v w Q E e g bj bX d=>by refine d.of λx b d=>ω b λxs o b=>ω b λys t b=>bY b λj b=>?_;obtain⟨y,ws,m,rfl,i,h⟩:=g.view bX t;obtain⟨x,vs,n,rfl,l,f⟩:=g.view bj o;refine Θ λk=>?_;obtain rfl:=Φ b;refine k ?_;exact P.add_list l i (by rw[append_toArray];exact d.newList g<|f.append h) (by rw[List.size_toArray,List.size_toArray,←f.len,←h.len];exact j)
noncomputable def rep{α:Type}(xs:List α)(n:Nat):List α:=(List.replicate n xs).flatten
theorem r6(xs:List α)(n:Nat):rep xs (n+1)=xs++rep xs n:=by unfold rep;rw[List.replicate_succ,flatten_cons]
theorem All.rep{R:α->β->Prop}{xs:List α}{ys:List β}(h:All R xs ys)(n:Nat):All R (Internal.rep xs n)<|Internal.rep ys n:=by
 induction n with
 |zero=>exact .nil
 |succ n b=>rw[r6,r6];exact h.append b
theorem foldl_rep(vs:List Value)(n:Nat):∀acc:Array Value,List.foldl (λd c=>d++c) acc (List.replicate n vs.toArray)=acc++(rep vs n).toArray:=by
 induction n with
 |zero=>intro acc;exact(Array.append_empty).symm
 |succ n b=>intro acc;rw[List.replicate_succ,foldl_cons,b,r6,←append_toArray,Array.append_assoc]
def tA:fh:=λp q a=>.of<|(view a p).bind λxs=>(gd q).bind λn=>if xs.isEmpty=false then(if-(2^63:Int)<=n then if n<2^63 then if xs.length*n.toNat<=sizeLine then some (.list<|rep xs n.toNat,a)else none else none else none)else none
theorem Nc:c6 G (binaryOp .Mult) tA:=λs c a r p q v w Q E e g bj bX j=>by
 refine j.of λx b j=>ω b λxs y b=>ω b λn z b=>bY b λo b=>bY b λt b=>bY b λl b=>bY b λi b=>(Θ λm=>?_);obtain rfl:=Φ b;obtain⟨x,vs,k,rfl,d,f⟩:=g.view bj y;obtain⟨u,rfl⟩:=bX.jl z
 have h:vs.toArray.isEmpty=false:=by
  cases vs with
  |nil=>exact((List.isEmpty_eq_false_iff.mp o)<|length_eq_zero_iff.mp f.len).elim
  |cons=>rfl
 refine m ?_
 refine wpAny_binaryOp_repeat_ref (by rfl) ⟨_,d,rfl⟩ (λs'=>typeIs_int s' n u) noFill_list_mul _root_.PySem.F.fills_int_mul _root_.PySem.F.slot_int_rmul repeat_list _root_.PySem.F.slot_int_index.lookup
  (call_meets _root_.PySem.F.slot_int_rmul (typeIs_int r.s n u) _root_.PySem.F.entry_int_rmul (_root_.PySem.F.args_int_rmul_2 _ _) (int___rmul___int_list n u x vs.toArray k)
   ⟨d,rfl,⟨_,d,rfl⟩,call_meets _root_.PySem.F.slot_list_mul ⟨_,d,rfl⟩ _root_.PySem.F.entry_list_mul (_root_.PySem.F.args_list_mul_2 _ _)
    (AutoListH.list___mul___list_int_3 x vs.toArray k n u (by simp[Builtin.List.listFitsIndex];exact⟨t,l⟩) (by rw[sizeLine_eq]at i;rw[List.size_toArray,←f.len];lia) (by rw[sizeLine_eq]at i;simp[Builtin.List.listTooLong,sizeLine];rw[←f.len];exact i))
    ⟨d,?_⟩⟩)
 refine h▸?_;rw[foldl_rep];exact(Array.empty_append).symm▸j.newList g (f.rep _)
noncomputable def mB(dC d5:fh):fh:=λp q a=>match dC p q a with
 |.stuck=>d5 p q a
 |x=>x
theorem c6.or{f:Value->Value->Sem Value}{dC d5:fh}(h:c6 G f dC)(i:c6 G f d5):c6 G f<|mB dC d5:=λs c a r p q v w Q E e g bj bX d=>by
 have dH:=h s c a r p q v w Q E e g bj bX
 unfold mB at d
 generalize dC p q a=x at d dH
 cases x with
 |stuck=>exact(i s c a r p q v w Q E e g bj bX) d
 |ok b a'=>exact dH d
 |err k a'=>exact dH d
def DH:fh:=ie λa b=>some<|.int<|a+b
def xh:fh:=ie λa b=>if b=4 then some (.int<|a*4)else none
theorem Rn:c6 G (binaryOp .Add)<|mB DH tx:=.or (c6.ie λA s a b t u c Q E e h=>P.add_int<|h _ _ λx=>Φ e▸.int _ _) Na
theorem Rt:c6 G (binaryOp .Mult)<|mB xh tA:=.or (c6.ie λA s a b t u c Q E e h=>bY e λd e=>by subst d;exact P.mul_int<|h _ _ λx=>Φ e▸.int _ _) Nc
theorem jy{w:World}{s:Shared}{value c:Expr}{o i:Value}{T id:String}(j:s.TypeIs o T)(m:typeLookup (.type T) "__getitem__"=pure (some<|.builtin id))(h:wpAny (model prog w) A (getItem o i) Q E s):
 wpAny (model prog w) A (subscriptTail value c o i) Q E s:=by
 refine υ<|υ<|wpAny_specialOf j m ?_
 have f:∀l,wpAny (model prog w) A (operate l<|getItem o i) (λr g=>wpAny (model prog w) A (letTemporaryGo value o r>>=λy=>pure r) Q E g) E s:=λl=>wpAny_operating<|wpAny_mono h (λr g k=>υ<|wpAny_letTemporaryGo<|ψ k) λy y x=>x
 have e:wpAny (model prog w) A (subscripted c false o i) (λr g=>wpAny (model prog w) A (letTemporaryGo value o r>>=λy=>pure r) Q E g) E s:=by
  cases c with
  |Slice a b d p=>cases d<;>exact f _
  |_=>exact f _
 first
  |exact ψ (υ e)
  |exact wP (υ e)
  |exact υ e
noncomputable def gT(n:Nat)(i:Int):Option Nat:=if 0<=i then(if i<n then some i.toNat else none)else if-(n:Int)<=i then some (i+n).toNat else none
def Py(dC d5:Den):Den:=λa=>(dC a).bind λp a=>(d5 a).bind λq a=>.of<|(items a p).bind λxs=>(gd q).bind λi=>if xs.length<=sizeLine then(gT xs.length i).bind λj=>(xs[j]?).bind λx=>some (x,a)else none
theorem Ri{i:Int}(b:n<=16777216)(q:i<n):i<2^63:=Int.lt_trans (Int.lt_of_lt_of_le q<|ofNat_le.mpr b) (by decide:((16777216:Nat):Int)<2^63)
theorem I4{i:Int}(b:n<=16777216)(q:-(n:Int)<=i):-2^63<=i:=Int.le_trans (Int.le_trans (by decide:(-2^63:Int)<=-((16777216:Nat):Int))<|Int.neg_le_neg<|ofNat_le.mpr b) q
theorem aw.adG{A o:Expr}{dC d5:Den}(F:aw s A dC)(G:aw s o d5):aw s (.Subscript A o pos)<|Py dC d5:=λc a r Q E g p=>
 Subscript_ (F.then g p λv aX K a1 D I bj p=>G.then D p λw J L a2 z C bX p=>p.of λy f p=>ω f λxs dH f=>ω f λi dD f=>bY f λk f=>ω f λj d9 f=>ω f λx B f=>by
  refine Θ λH=>?_;cases f;obtain⟨b,vs,rfl,t,d⟩:=z.items (bj.mono C.mono) dH;obtain⟨u,rfl⟩:=bX.jl dD;refine H<|t.at_ B λy e f=>?_;have l:=p.now z f;have m:=t.len;replace k:=sizeLine_eq▸k;unfold gT at d9;by_cases q:0<=i
  ·rw[if_pos q]at d9;refine bY d9 λh d9=>?_;cases d9;rcases d with⟨n,d⟩|d
   ·exact jy ⟨_,d,rfl⟩ slot_list_getitem.lookup<|wpAny_getItem_list (jW d) q (Ri k h) (by simpa using e) l
   ·refine jy ⟨_,d,rfl⟩ slot_tuple_getitem.lookup<|getItem_tuple ⟨_,d,rfl,0,rfl⟩ (Int.le_trans (by decide) q) (Ri k h) ?_ (by simpa using e) l;refine List.size_toArray▸(m▸?_);simp only[seqIndex?,show¬i<0 from Int.not_lt.mpr q,if_false];rw[if_pos (by simp only[Bool.and_eq_true,decide_eq_true_eq];omega)]
  ·rw[if_neg q]at d9;refine bY d9 λh d9=>?_;cases d9;have q:i<0:=(bP 0x107e08009e008 [] [_] ι q);rcases d with⟨n,d⟩|d
   ·exact jy ⟨_,d,rfl⟩ slot_list_getitem.lookup<|wpAny_getItem_list_neg (jW d) q (by rw[List.size_toArray,←m];exact(bP 0x106e1006e10 [] [_,_] ι h)) (I4 k h) (by rw[List.size_toArray,←m];simpa using e) l
   ·refine jy ⟨_,d,rfl⟩ slot_tuple_getitem.lookup<|getItem_tuple ⟨_,d,rfl,0,rfl⟩ (I4 k h) (Int.lt_trans q<|by decide) ?_ (by simpa using e) l;rw[List.size_toArray,←m,seqIndex_neg q h])
end
variable {ys:List ζ}{ws:List Value}{q:ζ}
section
open PySem.SeqAt
section
variable {c:Fr s}
def jN(p:ζ):Option Unit:=p.v none (n:=some ())
def w9(p:ζ):Option Nat:=p.v none (s:=some)
def jM(p:ζ):Option<|List ζ:=p.v none (l:=some)
theorem hh{u:Unit}(h:jN p=some u):p=.none:=kK (P:=λx=>p=.none) (by clear h;cases p<;>first|exact trivial|rfl) h
theorem o5(h:w9 p=some k):p=.str k:=kK (P:=λk=>p=.str k) (by clear h;cases p<;>first|exact trivial|rfl) h
theorem hg(h:jM p=some xs):p=.list xs:=kK (P:=λxs=>p=.list xs) (by clear h;cases p<;>first|exact trivial|rfl) h
theorem Rel.lB{r:ax}{v:Value}(b:Rel G r .none v):v=.none:=by cases b;rfl
theorem Rel.tV{r:ax}{v:Value}(b:Rel G r (.str k) v):∃t,v=.str (strOf k) t:=by cases b;exact⟨_,rfl⟩
inductive OL(G:aB)(r:ax)(v:Value)(xs:List ζ):Prop
 |mk (x vs n:_):v=.ref x->r.T x=.z (bW vs n)->bV G r xs vs->OL G r v xs
inductive OY(G:aB)(r:ax)(v:Value)(xs:List ζ):Prop
 |mk (x vs:_):v=.ref x->r.T x=.z (lR vs)->bV G r xs vs->OY G r v xs
theorem Rel.jY{r:ax}{v:Value}(b:Rel G r (.list xs) v):OL G r v xs:=by
 cases b with
 |list h l k=>exact⟨_,_,_,rfl,h,l,k⟩
theorem Rel.qE{r:ax}{v:Value}(b:Rel G r (.tup xs) v):OY G r v xs:=by
 cases b with
 |tup h l k=>exact⟨_,_,rfl,h,l,k⟩
theorem iU{x y:Option α}{b:α}(h:x.or y=some b)(dH:x=some b->P)(dD:y=some b->P):P:=by
 cases x with
 |none=>exact dD h
 |some a=>exact dH h
structure AR(G:aB)(r:ax)(p q:ζ)(b:Bool)(d:Nat):Prop where
 rc:∀v w (A:Around) (s:Shared),Ci r s.heap->A.units+d<cLine->Rel G r p v->Rel G r q w->RcAt A s v w b/\RcNeAt A s v w (!b)
 same:∀v,Rel G r p v->Rel G r q v->b=true
theorem Rel.NG{r:ax}{v:Value}(h:Rel G r p v):∀u t,v≠.float u t:=by cases h<;>(intro u t q;cases q)
set_option tactic.hygienic true in
theorem AR.at{G:aB}{r:ax}{p q:ζ}{b:Bool}{d:Nat}(x:AR G r p q b d){v w:Value}{A:Around}{s:Shared}(z:Ci r s.heap)(i:A.units+d<cLine)(c:Rel G r p v)(f:Rel G r q w):EqAt A s v w b:=λprog W E Q h=>by
 refine wpAny_holding<|wpAny_ite_split (λg=>?_) λy=>?_
 ·have e:v=w:=eq_of_beq g;rw[x.same v c<|e▸f]at h;exact υ<|wpAny_rule<|ψ h
 ·dsimp only;split
  ·rename_i q;injection q with q _;exact(c.NG _ _ q).elim
  ·exact(υ<|(x.rc v w A s z i c f).1 prog W E _<|wpAny_truthy_bool h)
noncomputable def h5(f:ζ->ζ->Option Bool):List ζ->List ζ->Option Bool
 |x::xs,y::ys=>(f x y).bind λa=>(h5 f xs ys).bind λb=>some<|a&&b
 |_,_=>some true
theorem wk:∀i<17,∀j<17,strOf i=strOf j->i=j:=by decide+kernel
theorem vC{f:ζ->ζ->Option Bool}:∀{xs ys:List ζ} {b:Bool},h5 f xs ys=some b->∀j (d:j<xs.length) (e:j<ys.length),∃c,f xs[j] ys[j]=some c
 |[],_,_,_,j,d,_=>absurd d (not_lt_zero _)
 |_::_,[],_,_,j,_,e=>absurd e (not_lt_zero _)
 |x::xs,y::ys,b,h,j,d,e=>by
  unfold h5 at h
  obtain⟨a,i,h⟩:=Option.bind_eq_some_iff.mp h
  obtain⟨c,g,_⟩:=Option.bind_eq_some_iff.mp h
  cases j with
  |zero=>exact⟨a,i⟩
  |succ j=>exact vC g j (by simpa using d) (by simpa using e)
theorem vB{f:ζ->ζ->Option Bool}:∀{ys:List ζ} {b:Bool},h5 f xs ys=some b->(List.range<|min xs.length ys.length).all (λj=>((xs[j]?).bind λx=>(ys[j]?).bind λy=>f x y).getD false)=b:=by
 induction xs with
 |nil=>intro ys b h;cases h;rw[length_nil,Nat.zero_min];rfl
 |cons x xs d=>
  intro ys b h
  cases ys with
  |nil=>cases h;rfl
  |cons y ys=>
  replace h:(f x y).bind _=_:=h
  obtain⟨a,g,h⟩:=Option.bind_eq_some_iff.mp h
  obtain⟨c,e,h⟩:=Option.bind_eq_some_iff.mp h
  obtain rfl:=Φ h
  have i:=d e
  rw[length_cons,length_cons,Nat.add_min_add_right,List.range_succ_eq_map,all_cons,List.all_map]
  congr 1
  simp[g]
theorem afb(A:Around):A.in1.units=A.units+1:=rfl
theorem uw{r:ax}{f:ζ->ζ->Option Bool}{d:Nat}{b:Bool}{s:Shared}(t:∀p q b,f p q=some b->AR G r p q b d)(z:Ci r s.heap)(o:A.units+(d+1)<cLine)(m:bV G r xs vs)(n:bV G r ys ws)(h:h5 f xs ys=some b):
 ∀j (i:j<vs.toArray.size) (k:j<ws.toArray.size),EqAt A.in1 s vs.toArray[j] ws.toArray[j]<|((xs[j]?).bind λx=>(ys[j]?).bind λy=>f x y).getD false:=by
 intro j i k
 refine Θ λu=>?_
 have g:j<xs.length:=m.len▸i
 have e:j<ys.length:=n.len▸k
 obtain⟨c,l⟩:=vC h j g e
 refine u<|(b3 g)▸?_
 refine(b3 e)▸((?_:EqAt A.in1 s vs[j] ws[j]<|(f xs[j] ys[j]).getD false))
 simp only[l]
 exact(t _ _ _ l).at z (by rw[afb];exact(aV 0x101e2919118001e29911810 [_,_,_] ι o)) (m.get j _ _ (b3 g)<|b3 i)<|n.get j _ _ (b3 e)<|b3 k
theorem Fb{r:ax}{f:ζ->ζ->Option Bool}{d:Nat}(j:∀p q b,f p q=some b->AR G r p q b d):∀{xs ys:List ζ} {b:Bool},bV G r xs vs->bV G r ys vs->h5 f xs ys=some b->b=true:=by
 induction vs with
 |nil=>intro xs ys b c g h;obtain rfl:=length_eq_zero_iff.mp c.len;exact(Φ h).symm
 |cons v vs i=>
  intro xs ys b c g h
  cases xs with
  |nil=>exact AP c.len
  |cons x xs=>
   cases ys with
   |nil=>exact AP g.len
   |cons y ys=>refine ω h λa k h=>ω h λe l h=>(Eq.symm (Φ h)▸?_);refine Eq.symm ((j _ _ _ k).same v c.head g.head)▸(Eq.symm (i c.tail g.tail l)▸?_);rfl
def mV(f:ζ->ζ->Option Bool)(xs ys:List ζ):Option Bool:=if xs.length=ys.length then h5 f xs ys else some false
theorem Be{r:ax}{f:ζ->ζ->Option Bool}{d:Nat}{b:Bool}{s:Shared}{x y:Addr}(n:∀p q b,f p q=some b->AR G r p q b d)(z:Ci r s.heap)(l:A.units+(d+1)<cLine)(i:bV G r xs vs)(k:bV G r ys ws)(h:mV f xs ys=some b)
 (g:s.heap.IsList x vs.toArray) (ie:s.heap.IsList y ws.toArray):RcAt A s (.ref x) (.ref y) b/\RcNeAt A s (.ref x) (.ref y) (!b):=by
 refine Θ λm=>?_
 have j:A.units<cLine:=(aV 0x101e2001e29911810 [_,_,_] ι l)
 unfold mV at h
 by_cases q:xs.length=ys.length
 ·rw[if_pos q]at h;have c:=uw n z l i k h;have c0:vs.toArray.size=ws.toArray.size:=by rw[List.size_toArray,List.size_toArray,←i.len,←k.len,q]
  have t1:=RcAt.lists g ie c0 j c;have h2:=RcNeAt.lists g ie c0 j c;have e:=vB h;rw[←q,Nat.min_self]at e;rw[List.size_toArray,←i.len,e]at t1 h2;exact m ⟨t1,h2⟩
 ·rw[if_neg q]at h;obtain rfl:=Φ h;have c0:(vs.toArray.size !=ws.toArray.size)=true:=by simp only[List.size_toArray,List.size_toArray,←i.len];exact k.len▸(bne_iff_ne.mpr q)
  exact m ⟨.lists_lengths g ie c0 j,.lists_lengths g ie c0 j⟩
theorem TH{r:ax}{x:Addr}{b:List Value}{c:Nat}(d:r.T x=.z (bW vs n))(e:r.T x=.z (bW b c)):vs=b:=by injection (d.symm.trans e)with q;injection q with _ _ q _;injection q with q _;exact congrArg Array.toList q
theorem VC{r:ax}{x:Addr}{b:List Value}(c:r.T x=.z (lR vs))(d:r.T x=.z (lR b)):vs=b:=by injection (c.symm.trans d)with q;injection q with _ _ q _;injection q with q _;exact congrArg Array.toList q
noncomputable def gY:Nat->ζ->ζ->Option Bool
 |0,_,_=>none
 |d+1,p,q=>(((((gd p).bind λx=>(gd q).bind λy=>some<|x==y).or<|(jN p).bind λz=>(jN q).bind λz=>some true).or
  ((w9 p).bind λi=>(w9 q).bind λj=>if i<17/\j<17 then some (i==j)else none)).or ((jM p).bind λxs=>(jM q).bind λys=>mV (gY d) xs ys)).or
  ((nD p).bind λxs=>(nD q).bind λys=>(h5 (gY d) xs ys).bind λb=>some<|b&&xs.length==ys.length)
theorem Bf{r:ax}:∀(d:Nat) (p q:ζ) (b:Bool),gY d p q=some b->AR G r p q b d:=by
 intro d
 induction d with
 |zero=>exactλX X X h=>cR h
 |succ d C=>
  intro p q b h;refine iU h (λh=>iU h (λh=>iU h (λh=>iU h (λh=>?_) λh=>?_) λh=>?_) λh=>?_) λh=>?_
  ·refine ω h λx g h=>ω h λy k h=>?_;cases h;refine⟨λv w A s z l bj bX=>?_,λv bj bX=>?_⟩
   ·obtain⟨t,rfl⟩:=bj.jl g;obtain⟨u,rfl⟩:=bX.jl k;exact⟨.int_int _ _ _ _,.int_int _ _ _ _⟩
   ·obtain⟨t,rfl⟩:=bj.jl g;obtain⟨u,e⟩:=bX.jl k;cases e;exact beq_self_eq_true x
  ·refine ω h λX g h=>ω h λX k h=>?_;cases h;cases hh g;cases hh k;exact⟨λv w A s z l bj bX=>by rw[bj.lB,bX.lB];exact⟨.none_none,.none_none⟩,λX X X=>rfl⟩
  ·refine ω h λi g h=>ω h λj k h=>bY h λD h=>?_;cases h;cases o5 g;cases o5 k;refine⟨λv w A s z l bj bX=>?_,λv bj bX=>?_⟩
   ·obtain⟨t,rfl⟩:=bj.tV;obtain⟨u,rfl⟩:=bX.tV
    have e:(i==j)=(strOf i==strOf j):=by
     by_cases q:i=j
     ·subst q;rw[beq_self_eq_true,beq_self_eq_true]
     ·rw[beq_eq_false_iff_ne.mpr λe=>q<|wk _ D.1 _ D.2 e,beq_eq_false_iff_ne.mpr q]
    rw[e];exact⟨.str_str _ _ _ _,.str_str _ _ _ _⟩
   ·obtain⟨t,rfl⟩:=bj.tV;obtain⟨u,e⟩:=bX.tV;injection e with e _;cases wk _ D.1 _ D.2 e;exact beq_self_eq_true i
  ·refine ω h λxs g h=>ω h λys k F=>?_;cases hg g;cases hg k;refine⟨λv w A s z l bj bX=>?_,λv bj bX=>?_⟩
   ·obtain⟨x,vs,n,rfl,B,c⟩:=bj.jY;obtain⟨y,ws,m,rfl,o,f⟩:=bX.jY;exact Be C z l c f F (jW<|z _ _ B)<|jW<|z _ _ o
   ·obtain⟨x,vs,n,rfl,B,c⟩:=bj.jY;obtain⟨y,ws,m,e,o,f⟩:=bX.jY;cases e;cases TH B o;unfold mV at F;rw[if_pos<|c.len.trans f.len.symm]at F;exact Fb C c f F
  ·refine ω h λxs g h=>ω h λys k h=>ω h λe E I=>?_;cases I;cases jO g;cases jO k;refine⟨λv w A s z l bj bX=>?_,λv bj bX=>?_⟩
   ·obtain⟨x,vs,rfl,B,c⟩:=bj.qE;obtain⟨y,ws,rfl,o,f⟩:=bX.qE;have H:A.units<cLine:=(aV 0x101e2001e29911810 [_,_,_] ι l);have t1:=RcAt.tuples ⟨_,z _ _ B,rfl,0,rfl⟩ ⟨_,z _ _ o,rfl,0,rfl⟩ H<|uw C z l c f E;have h2:=RcNeAt.tuples ⟨_,z _ _ B,rfl,0,rfl⟩ ⟨_,z _ _ o,rfl,0,rfl⟩ H<|uw C z l c f E;rw[List.size_toArray]at t1 h2;rw[List.size_toArray]at t1 h2;rw[←c.len]at t1 h2;rw[←f.len,vB E]at t1 h2;exact⟨t1,h2⟩
   ·obtain⟨x,vs,rfl,B,c⟩:=bj.qE;obtain⟨y,ws,e',o,f⟩:=bX.qE;cases e';cases VC B o;rw[Fb C c f E,c.len,f.len,beq_self_eq_true];rfl
def eqQ(a:aD)(p q:ζ):Option Bool:=((view a p).bind λxs=>(view a q).bind λys=>mV (gY 4) xs ys).or<|gY 5 p q
theorem Bg{r:ax}{v w:Value}{b:Bool}(g:aL c a r)(bj:Rel s.G r p v)(bX:Rel s.G r q w)(h:eqQ a p q=some b):RcAt c.A r.s v w b/\RcNeAt c.A r.s v w (!b):=by
 have d:c.A.units+5<cLine:=by have:=g.ij.units;have:cLine=9900:=rfl;exact(ck 0x121e325aa06829518032e2dcd436826ac48220e325aa0682328489c18180 [_,_,_] ι ‹_› this)
 refine iU h (λh=>ω h λxs k h=>ω h λys l h=>?_) λh=>(Bf 5 p q b h).rc v w c.A r.s g.base.fy d bj bX;obtain⟨x,vs,n,rfl,j,f⟩:=g.view bj k;obtain⟨y,ws,m,rfl,e,i⟩:=g.view bX l;exact Be (Bf 4) g.base.fy d f i h (jW j)<|jW e
def oEq:fh:=λp q a=>.of<|(eqQ a p q).bind λb=>some (.bool b,a)
def iy:fh:=λp q a=>.of<|(eqQ a p q).bind λb=>some (.bool<|!b,a)
theorem UG:c6 G (compareOp .Eq) oEq:=λs c a r p q v w Q E e g bj bX d=>by refine d.of λx f d=>ω f λb h f=>?_;obtain rfl:=Φ f;exact(Bg g bj bX h).1 _ _ E Q<|d.now g<|.bool b
theorem UK:c6 G (compareOp .NotEq) iy:=λs c a r p q v w Q E e g bj bX d=>by refine d.of λx f d=>ω f λb h f=>?_;obtain rfl:=Φ f;exact(Bg g bj bX h).2 _ _ E Q<|d.now g<|.bool _
def j1(t:Bool):fh:=λp q a=>.of<|(jN q).bind λx=>some (.bool<|t==(jN p).isSome,a)
theorem BM{r:ax}{v:Value}{s:Shared}(b:Rel G r p v)(t:Bool)(h:Q (.bool<|t==(jN p).isSome) s):wpAny G.M A (compareOp (if t then .Is else .IsNot) v .none) Q E s:=by
 cases t
 ·cases b<;>first|exact isnot_none_none h|exact isnot_bool_none h|exact isnot_int_none h|exact isnot_str_none h|exact isnot_ref_none h
 ·cases b<;>first|exact wpAny_is_plain rfl h|exact is_bool_none h|exact is_int_none h|exact is_str_none h|exact is_ref_none h
theorem UJ:c6 G (compareOp .Is)<|j1 true:=λs c a r p q v w Q E e g bj bX d=>by refine d.of λx f d=>ω f λb h f=>?_;obtain rfl:=Φ f;rw[hh h]at bX;exact bX.lB▸(BM bj true<|d.now g<|.bool _)
theorem Jc:c6 G (compareOp .IsNot)<|j1 false:=λs c a r p q v w Q E e g bj bX d=>by refine d.of λx f d=>ω f λb h f=>?_;obtain rfl:=Φ f;rw[hh h]at bX;exact bX.lB▸(BM bj false<|d.now g<|.bool _)
end
end
noncomputable def fH(p:Arguments):Bool:=p.posonlyargs.isEmpty&&p.kwonlyargs.isEmpty&&p.vararg.isNone&&p.kwarg.isNone
theorem iR:∀{ns:List Str} {vs:List Value} {n:Str},n∈ns->ns.length<=vs.length->((ns.zip vs).lookup n).isSome=true
 |cW::ns,v::vs,n,h,l=>by
  dsimp only[zip_cons_cons,lookup_cons]
  cases e:n==cW with
  |true=>rfl
  |false=>
   refine Θ λb=>?_;rcases ae6 h with q|q
   ·subst q;simp at e
   ·exact b (iR q<|by simpa using l)
 |_::_,[],_,_,l=>by simp at l
 |[],_,_,h,_=>by cases h
theorem mg:∀{ns:List Str} {vs:List Value} {n:Str},n∉ns.take vs.length->(ns.zip vs).lookup n=none
 |[],_,_,_=>rfl
 |_::_,[],_,_=>rfl
 |cW::ns,v::vs,n,h=>by dsimp only[zip_cons_cons,lookup_cons];simp only[length_cons,take_succ_cons,mem_cons,not_or]at h;exact(beq_eq_false_iff_ne.mpr h.1)▸(mg h.2)
theorem kf:∀{ns:List Str} {vs:List Value} {l:List<|Str×Value},ns.Nodup->ns.length=vs.length->(∀n v,(ns.zip vs).lookup n=some v->l.lookup n=some v)->ns.filterMap (λn=>(l.lookup n).map (n,·))=ns.zip vs
 |[],[],_,_,_,_=>rfl
 |n::ns,v::vs,l,h,e,k=>by
  obtain⟨f,g⟩:=nodup_cons.mp h;simp only[filterMap_cons,k n v (by rw[zip_cons_cons,lookup_cons];simp),zip_cons_cons];dsimp only[Option.map_some];rw[kf g (by simpa using e) λb d q=>k b d ?_];dsimp only[zip_cons_cons,lookup_cons];have:(b==n)=false:=beq_eq_false_iff_ne.mpr λc=>by subst c;have:=mem_of_lookup q;exact f (List.of_mem_zip this).1
  rw[this];exact q
 |[],_::_,_,_,e,_=>by simp at e
 |_::_,[],_,_,e,_=>by simp at e
theorem Jq{M:Model}{Q:β->Shared->Prop}{s:Shared}{l:List α}{b:β}{f:α->β->Sem (ForInStep β)}(h:l=[])(c:Q b s):wpAny M A (forIn l b f) Q E s:=by subst h;exact ψ c
theorem Jr{M:Model}{Q:β->Shared->Prop}{s:Shared}{l:List α}{x:α}{b c:β}{f:α->β->Sem (ForInStep β)}(h:l=[x])(e:f x b=pure (.yield c))(d:Q c s):wpAny M A (forIn l b f) Q E s:=by subst h;exact υ<|wpAny_of_eq e<|ψ d
noncomputable def KY(r:Option<|Array Value)(ns:List Str):List<|Str×Value:=(ns.drop<|ns.length-((r.getD #[]).toList.drop<|(r.getD #[]).toList.length-ns.length).length).zip<|(r.getD #[]).toList.drop<|(r.getD #[]).toList.length-ns.length
theorem NJ{p:Arguments}(b:fH p=true):p=⟨[],p.args,none,[],p.kw_defaults,none,p.defaults⟩:=by obtain⟨i,j,c,d,i4,h,e⟩:=p;obtain rfl:=Option.isNone_iff_eq_none.mp (bf (bf b).1).2;obtain rfl:=Option.isNone_iff_eq_none.mp (bf b).2;obtain⟨f,g⟩:=bf (bf (bf b).1).1;clear b;obtain rfl:=List.isEmpty_iff.mp f;obtain rfl:=List.isEmpty_iff.mp g;rfl
variable {fd:FuncData}
theorem JI(b:fH fd.params=true):fd={fd with params:=⟨[],fd.params.args,none,[],fd.params.kw_defaults,none,fd.params.defaults⟩}:=congrArg (λp=>{fd with params:=p})<|NJ b
theorem vx{M:Model}{E:Value->Shared->Prop}{Q:List (Str×Value)->Shared->Prop}{s:Shared}{ae7:List Value}{ns:List Str}{r:Option<|Array Value}{out b:List<|Str×Value}
 (m:fH fd.params=true) (c:fd.params.args.map (·.arg)=ns) (o:∀g:Option (Array Value)->Shared->Prop,g r s->wpAny M A (seqItems? fd.defaults) g E s) (q:ae7.length<=ns.length)
 (p:(ns.take<|ns.length-((r.getD #[]).toList.drop<|(r.getD #[]).toList.length-ns.length).length).filter (λn=>((ns.zip ae7).lookup n).isNone)=[])
 (hz:(KY r ns=[]/\out=ns.zip ae7)\/∃n d,KY r ns=[(n,d)]/\(ns.zip ae7).lookup n=none/\out=ns.zip ae7++[(n,d)])
 (i:ns.filterMap (λn=>(out.lookup n).map (n,·))=b) (j:Q b s):wpAny M A (bindArgs fd ⟨ae7,[]⟩) Q E s:=by
 subst c i
 refine(JI m)▸(wP<|υ<|o _ ?_)
 refine cV (λe=>absurd (of_decide_eq_true (bf e).1)<|fF q)<|cV (λe=>Bool.noConfusion<|(congrArg (λl:List Str=>!l.isEmpty) p).symm.trans e) ?_
 refine Θ λf=>?_
 have k:wpAny M A (pure (List.filterMap (λn=>(out.lookup n).map (n,·)) (fd.params.args.map (·.arg)++[]))) Q E s:=ψ (by rw[append_nil];exact j)
 rcases hz with⟨h,rfl⟩|⟨n,d,h,c,rfl⟩
 ·exact f<|υ<|Jq h<|wP k
 ·exact f<|υ<|Jr h (if_pos<|Option.isNone_iff_eq_none.mpr c)<|wP k
variable {ae7:List Value}
theorem Cz{s:Shared}(f:fH fd.params=true)(d:(fd.params.args.map (·.arg)).Nodup)(k:ae7.length=fd.params.args.length)
 (g:fd.defaults=.none):BindsTo s fd ⟨ae7,[]⟩ ((fd.params.args.map (·.arg)).zip ae7):=λM A E Q c=>by
 have b:(fd.params.args.map (·.arg)).length=ae7.length:=by rw[length_map,k]
 refine vx f rfl (λl h=>by rw[g];exact ψ h) (Nat.le_of_eq b.symm) (filter_eq_nil_iff.mpr λn i e=>?_) (.inl ⟨?_,rfl⟩) (kf d b λx x e=>e) c
 ·have q:=iR (mem_of_mem_take i)<|Nat.le_of_eq b;cases j:List.lookup n ((fd.params.args.map (·.arg)).zip ae7)<;>rw[j]at e q<;>contradiction
 ·show(List.drop _ _).zip (List.drop _ ([]:List Value))=[];rw[drop_nil,zip_nil_right]
theorem ux{ns:List Str}{l:List<|Str×Value}(h:ns.Nodup)(e:ns.length=vs.length)(k:l=ns.zip vs):ns.filterMap (λn=>(l.lookup n).map (n,·))=ns.zip vs:=kf h e λx x q=>k▸q
theorem Cy{s:Shared}{T:Addr}{d:Value}{ns:List Str}{n:Str}(p:fH fd.params=true)(t:fd.params.args.map (·.arg)=ns++[n])(f:(ns++[n]).Nodup)(c:ae7.length=ns.length)
 (u:fd.defaults=.ref T) (k:s.heap.get? T=some o) (m:o.data=.seq #[d]):BindsTo s fd ⟨ae7,[]⟩<|(ns++[n]).zip<|ae7++[d]:=λM A E Q l=>by
 have j:(ns++[n]).zip (ae7++[d])=ns.zip ae7++[(n,d)]:=List.zip_append c.symm
 have i:n∉ns:=λq=>(nodup_append.mp f).2.2 n q n (.head _) rfl
 have b:(ns++[n]).length=ns.length+1:=Δ
 have hz:(ns++[n]).zip ae7=ns.zip ae7:=by
  have:=List.zip_append (r₁:=[n]) (r₂:=[]) c.symm
  rwa [append_nil,zip_nil_right,append_nil]at this
 refine vx p t (λw h=>by rw[u];exact wpAny_seqItems k m h) (by rw[b,c];exact le_succ _) ?_ (.inr ⟨n,d,?_,?_,rfl⟩) (ux f (by rw[Δ,Δ,c];rfl)<|by rw[hz,j]) l
 ·show List.filter _ ((ns++[n]).take<|(ns++[n]).length-([d].drop<|[d].length-(ns++[n]).length).length)=[];rw[(by rw[b,Nat.sub_eq_zero_of_le<|show[d].length<=ns.length+1 from le_add_left 1 _];rfl:[d].drop ([d].length-(ns++[n]).length)=[d]),b,hz,filter_eq_nil_iff];intro r g e;rw[show ns.length+1- [d].length=ns.length from rfl,take_left' rfl]at g;have q:=iR g<|Nat.le_of_eq c.symm;cases v:List.lookup r (ns.zip ae7)<;>rw[v]at e q<;>contradiction
 ·show((ns++[n]).drop<|(ns++[n]).length-([d].drop<|[d].length-(ns++[n]).length).length).zip ([d].drop<|[d].length-(ns++[n]).length)=_;rw[(by rw[b,Nat.sub_eq_zero_of_le<|show[d].length<=ns.length+1 from le_add_left 1 _];rfl:[d].drop ([d].length-(ns++[n]).length)=[d]),b,show ns.length+1- [d].length=ns.length from rfl,drop_left' rfl];rfl
 ·rw[hz];exact mg λq=>i<|mem_of_mem_take q
variable {body:List Stmt}
section
variable {w:World}{s:Shared}
theorem Ac{R:Result->Shared->Prop}{a:Addr}{b:List<|Str×Value}
 (m:A.depth<recursionLimit) (p:s.heap.get? a=some o) (u:o.data=.func fd) (k:s.heap.NoLimit) (t:s.heap.CodeRec fd.code fd.qualname)
 (g:fd.body=.stmts body) (d:BindsTo s fd ⟨ae7,[]⟩ b) (n:fd.closure=[])
 (j:∀x∈b,fd.scope.names.lookup x.1=some .local\/(fd.scope.names.lookup x.1=some .cell/\((cellsFrom (s.heap.objs.size+1) fd.scope.names []).lookup x.1).isSome=true))
 (h:∀aO,InCallC s (callEnvC fd s.heap.objs.size a).locals (bindL (callEnvC fd s.heap.objs.size a).kindOf b λy=>none) (callEnvC fd s.heap.objs.size a).cells (bindC (callEnvC fd s.heap.objs.size a).kindOf b λy=>none) aO->wpAny (model prog w) (A.deeper<|callEnvC fd s.heap.objs.size a) (execs body<|callEnvC fd s.heap.objs.size a) (λf s'=>R (.ok<|.ret (match f with|.ret v=>v|_=>.none)) s') (λe s'=>wpAny (model prog w) (A.deeper<|callEnvC fd s.heap.objs.size a) (leaving (callEnvC fd s.heap.objs.size a) e) (λy c=>R (.error e) c) (λe' c=>R (.error e') c) s') aO)
 (l:fd.scope.isCoroutine=false) (i:fd.scope.isGenerator=false) (q:fd.scope.kind=.function):
 codeAny (model prog w) A (.call (.ref a) ⟨ae7,[]⟩) R s:=by
 refine codeAny_call_function m p u l i g t<|d _ _ _ _ ?_
 refine n▸(wpAny_newFunctionEnv_cells q j λenv r s' x=>?_)
 subst r
 exact⟨k.keeps x.toInCall.keep,codeAny_func<|h s' x⟩
end
set_option tactic.hygienic true in
theorem kH:∀{names:List<|Str×NameKind} {k:Nat} {acc:List<|Str×Addr} {n:Str},((n,NameKind.cell)∈names\/(acc.lookup n).isSome=true)->((cellsFrom k names acc).lookup n).isSome=true
 |[],_,_,_,h=>by
  rcases h with h|h
  ·cases h
  ·exact h
 |(e,i4)::r,k,acc,n,h=>by
  unfold cellsFrom;split
  ·rename_i b;refine kH<|h.elim (λq=>?_) λq=>?_
   ·rcases ae6 q with q|q
    ·injection q with c d;clear h q;subst c;exact .inr (by simp)
    ·exact .inl q
   ·refine .inr ?_;dsimp only[lookup_cons];cases n==e<;>first|rfl|exact q
  ·rename_i b;refine kH<|h.imp (λq=>?_) id;clear h;rcases ae6 q with q|q
   ·injection q with c d;subst d;exact absurd rfl b
   ·exact q
theorem nG{b:Str->Option NameKind}:∀{ns:List Str} {vs:List Value} {m:Str->Option Value} {n:Str},n∉ns->bindL b (ns.zip vs) m n=m n
 |[],_,_,_,_=>rfl
 |_::_,[],_,_,_=>rfl
 |cW::ns,v::vs,m,n,h=>by
  simp only[zip_cons_cons,bindL,nG λq=>h<|.tail _ q];split
  ·exact if_neg λq=>h (by subst q;exact .head _)
  ·rfl
theorem nF{b:Str->Option NameKind}:∀{ns:List Str} {vs:List Value} {m:Str->Option Value} {n:Str},n∉ns->bindC b (ns.zip vs) m n=m n
 |[],_,_,_,_=>rfl
 |_::_,[],_,_,_=>rfl
 |cW::ns,v::vs,m,n,h=>by
  simp only[zip_cons_cons,bindC,nF λq=>h<|.tail _ q];split
  ·rfl
  ·exact if_neg λq=>h (by subst q;exact .head _)
theorem vw{f:Str->Option NameKind}:∀{ns:List Str} {vs:List Value} {m:Str->Option Value} {n:Str} {i:Nat} {v:Value},ns.Nodup->ns[i]?=some n->vs[i]?=some v->f n=some .local->bindL f (ns.zip vs) m n=some v
 |cW::ns,g::vs,m,n,0,v,e,b,c,d=>by simp at b c;subst b;subst c;rw[zip_cons_cons,bindL,nG (nodup_cons.mp e).1,if_pos d];exact if_pos rfl
 |cW::ns,g::vs,m,n,i+1,v,e,b,c,d=>by dsimp only[zip_cons_cons];exact vw (nodup_cons.mp e).2 b c d
 |[],_,_,_,_,_,_,h,_,_=>by simp at h
 |_::_,[],_,_,_,_,_,_,h,_=>by simp at h
theorem vv{f:Str->Option NameKind}:∀{ns:List Str} {vs:List Value} {m:Str->Option Value} {n:Str} {i:Nat} {v:Value},ns.Nodup->ns[i]?=some n->vs[i]?=some v->f n≠some .local->bindC f (ns.zip vs) m n=some v
 |cW::ns,g::vs,m,n,0,v,e,b,c,d=>by simp at b c;subst b;subst c;rw[zip_cons_cons,bindC,nF (nodup_cons.mp e).1,if_neg d];exact if_pos rfl
 |cW::ns,g::vs,m,n,i+1,v,e,b,c,d=>by dsimp only[zip_cons_cons];exact vv (nodup_cons.mp e).2 b c d
 |[],_,_,_,_,_,_,h,_,_=>by simp at h
 |_::_,[],_,_,_,_,_,_,h,_=>by simp at h
noncomputable abbrev cn:=List ζ->List Ξ->Res ζ
def su(G:aB)(r:ax)(d:Res ζ)(Q:Value->Shared->Prop)(E:Value->Shared->Prop):Prop:=match d with
 |.stuck=>False
 |.ok p a=>∀v r',ae0 G r' a.σ->bt r r'->(∀b,r'.T b≠.fr)->Rel G r' p v->Q v r'.s
 |.err k a=>∀v r',ae0 G r' a.σ->bt r r'->(∀b,r'.T b≠.fr)->Flying G k r' v->E v r'.s
def dG(G:aB)(K:Nat)(f:Value)(con:cn):Prop:=∀A r σ ps vs Q E,oi K A->Frs A r->ae0 G r σ->(∀b,r.T b≠.fr)->bV G r ps vs->su G r (con ps σ) Q E->wpAny G.M A (call f vs) Q E r.s
structure d3(G:aB)(K:Nat)(f:Addr)(con:cn):Prop where
 fn:∃o fd,G.s.heap.get? f=some o/\o.data=.func fd/\o.cls=.type "function"
 rA:dG G K (.ref f) con
noncomputable def Res.I6{β:Type}(ρ:List<|Option ζ):Res β->Res β
 |.ok p a=>.ok p ⟨ρ,a.σ⟩
 |.err k a=>.err k ⟨ρ,a.σ⟩
 |.stuck=>.stuck
def sI(con:cn)(ps:List ζ)(a:aD):Res ζ:=(con ps a.σ).I6 a.ρ
def nK(con:cn)(ds:aI):Den:=λa=>(ds a).bind λps a=>sI con ps a
theorem Flying.view{r:ax}{v:Value}(x:Flying G k r v)(s:r'.s=r.s)(z:∀b o,r.T b=.z o->r'.T b=.z o)(n:∀b,r.T b=.no\/r.T b=.fr->r'.T b=.no\/r'.T b=.fr):Flying G k r' v:=by
 have c:r'.h=r.h:=congrArg Shared.heap s
 cases x with
 |mk e d ig vs m t A B g i j l w u=>refine .mk e d ig vs m t (c▸A) B g i (n e j) (l.imp id λf=>f.elim λT p=>p.elim λq x=>⟨T,q,?_⟩) (λh y=>w h λb o q=>y b o<|z b o q) u;exact⟨c▸x.ex,x.ne,n T x.tag⟩
theorem Flying.back{r:ax}{v:Value}(x:Flying G k r' v)(st:bt r.hide r')(l:∀a,r.T a≠.no->bA r.h a):Flying G k (r'.back r) v:=x.view rfl (l6 st l).2.z λb t=>by
 refine(?_:gv (r.T b) _=_\/gv (r.T b) _=_)
 cases c:r.T b with
 |fr=>exact .inr rfl
 |_=>exact t
theorem Flying.hide{r:ax}{v:Value}(x:Flying G k r v):Flying G k r.hide v:=x.view rfl eX.z λb t=>.inl<|fv.mpr t
variable {con:cn}{ps:List ζ}{np:Pos}
section
variable {c:Fr s}
theorem aL.calls{f:Value}{r:ax}(g:aL c a r)(F:dG s.G K f con)(j:K<=s.K)(h:bV s.G r ps vs)(p:bM c r (Rel s.G) (sI con ps a) Q E):wpAny s.G.M c.A (PySem.call f vs) Q E r.s:=by
 refine F c.A r.hide a.σ ps vs Q E (g.ij.less j) g.mX.hide g.base.hide (λb=>gz) (h.mono eX) ?_
 unfold sI at p
 generalize con ps a.σ=d at p⊢
 have l:=g.base.live
 cases d with
 |stuck=>exact p
 |ok q a'=>exactλv r' b' st i e=>p v (r'.back r) (g.call b' st) (st.back l)<|e.mono (l6 st l).2
 |err k a'=>exactλv r' b' st i m=>p v (r'.back r) (g.call b' st) (st.back l)<|m.back st l
theorem aft{f:Addr}{first:List Value}{e:List ζ}{r:ax}(F:d3 s.G K f con)(l:K<=s.K)(k:eb s es ds)(g:aL c a r)(m:bV s.G r e first)
 (p:bM c r (Rel s.G) (nK (λps σ=>con (e++ps) σ) ds a) Q E) (j:∃cb,starEach es c.env=cb/\(cb=[]\/∃x ae1,cb=(false,x)::ae1)):
 wpAny s.G.M c.A (callWith pos (.ref f) first (backTo pos<|starEach es c.env) []) Q E r.s:=by
 refine Θ λu=>?_
 obtain⟨o,fd,q,t,_⟩:=F.fn
 have d:wpAny s.G.M c.A (spliced<|backTo pos<|starEach es c.env) (λvs aO=>(aO.heap.get? f=some o/\o.data=.func fd)/\wpAny s.G.M c.A (PySem.call (.ref f) (first++vs) []) Q E aO) E r.s:=(k pos).then g p λvs r' ps a' h st b p=>⟨⟨h.base.eW _ _ q,t⟩,h.calls F.rA l ((m.mono st.mono).append b) p⟩
 obtain⟨cb,n,i⟩:=j
 refine u<|callWith_function (o:=o) (fd:=fd) ?_
 rw[n]at d⊢
 rcases i with rfl|⟨x,ae1,rfl⟩
 ·unfold evalArgs
  exact υ (wpAny_mono d (λvs s' κ=>by
   refine wP ?_
   first
    |exact wpAny_holding (wP (wP (ψ κ)))
    |exact wpAny_holding (wP (ψ κ))) λy y x=>x)
 ·exact evalArgs_plain d
def vn(es:List Expr):Prop:=∀env,∃cb,starEach es env=cb/\(cb=[]\/∃x ae1,cb=(false,x)::ae1)
theorem aw.T5{x:Str}{f:Addr}(F:d3 s.G K f con)(e:s.G.cJ x=some (.ref f))(h:K<=s.K)(d:eb s es ds)(j:s.ai.scope.names.lookup x=some .globalImplicit)(i:(x==("__debug__":Str))=false)(b:vn es):aw s (.Call (.Name x np) es [] pos)<|nK con ds:=λc a r Q E g p=>Call_<|lz g e j i<|aft F h d g .nil p<|b _
end
def AV(G:aB):Prop:=∀(A:Around) (env:Env) (l:List Env) (r:ax) (σ:List Ξ) (k:Nat) (v:Value) (Q:Unit->Shared->Prop) (E:Value->Shared->Prop),A.frames=some (env::l)->(∀e∈env::l,oZ r e)->ae0 G r σ->Flying G k r v->(∀r',ae0 G r' σ->bt r r'->r'.T=r.T->Flying G k r' v->Q () r'.s)->wpAny G.M A (leaving env v) Q E r.s
def jh(env:Env)(T:Addr->Tag):Addr->Tag:=λb=>open Classical in if b=env.locals\/∃n,env.cells.lookup n=some b then .fr else T b
theorem mU{T:Addr->Tag}{b:Addr}(h:b=env.locals\/∃n,env.cells.lookup n=some b):jh env T b=.fr:=if_pos h
theorem sR{T:Addr->Tag}{b:Addr}(h:¬(b=env.locals\/∃n,env.cells.lookup n=some b)):jh env T b=T b:=if_neg h
structure l2(r:ax)(env:Env)(m:Str->Option Value)(H8:Str->Option Value)(aO:Shared):Prop where
 g:aO.gens=r.s.gens
 os:aO.os=r.s.os
 keep:∀b o,r.h.get? b=some o->aO.heap.get? b=some o
 dead:∀b,(b=env.locals\/∃n,env.cells.lookup n=some b)->cx r.h b
 ns:aO.heap.Ns env.locals m
 cell:∀n k,env.cells.lookup n=some k->aO.heap.IsCell k (H8 n)
 apart:∀n cW k,env.cells.lookup n=some k->env.cells.lookup cW=some k->n=cW
variable {H8:Str->Option Value}{aO:Shared}
theorem l2.live{r:ax}{m:Str->Option Value}(x:l2 r env m H8 aO){b:Addr}(h:b=env.locals\/∃n,env.cells.lookup n=some b):bA aO.heap b:=by
 rcases h with rfl|⟨n,e⟩
 ·obtain⟨o,_,_,e,_⟩:=x.ns;exact⟨o,e⟩
 ·obtain⟨o,e,_⟩:=x.cell n b e;exact⟨o,e⟩
theorem l2.base{r:ax}{m:Str->Option Value}(x:l2 r env m H8 aO)(b:ae0 G r σ):ae0 G ⟨aO,jh env r.T,r.a6⟩ σ/\dq r ⟨aO,jh env r.T,r.a6⟩:=by
 have f:∀b,(b=env.locals\/∃n,env.cells.lookup n=some b)->t5 r ⟨aO,jh env r.T,r.a6⟩ b:=λa q=>by have t:=b.no<|x.dead a q;exact⟨λo e=>Tag.noConfusion<|t.symm.trans e,λo e=>Tag.noConfusion<|(mU q).symm.trans e,λi e=>Tag.noConfusion<|t.symm.trans e,λy=>x.live q,λi e=>Tag.noConfusion<|(mU q).symm.trans e⟩
 exact⟨b.chg (⟨λb q=>sR q,λb y o e=>x.keep b o e,x.g,x.os⟩:Out (λb=>b=env.locals\/∃n,env.cells.lookup n=some b) r ⟨aO,jh env r.T,r.a6⟩) f rfl,(⟨λb q=>sR q,λb y o e=>x.keep b o e,x.g,x.os⟩:Out (λb=>b=env.locals\/∃n,env.cells.lookup n=some b) r ⟨aO,jh env r.T,r.a6⟩).mono f rfl⟩
theorem l2.out{r:ax}{m:Str->Option Value}(x:l2 r env m H8 aO)(b:ae0 G r σ)(d:∀b,r.T b≠.fr)(st:bt ⟨aO,jh env r.T,r.a6⟩ r'):bt r r'.hide:=by
 have c:∀a,bA r.h a->jh env r.T a=r.T a:=λa l=>sR λq=>l.ne<|x.dead a q;refine⟨(x.base b).2.trans<|st.mono.trans eX,λa e o h=>?_,λa e l=>?_,λa=>⟨λe=>(d a e).elim,λe=>(gz e.1).elim⟩,λa i e=>?_⟩
 ·exact st.keep a ((c a ⟨o,h⟩).trans e) o<|x.keep a o h
 ·obtain⟨o,h⟩:=l;exact fv.mpr<|.inl<|st.no a ((c a ⟨o,h⟩).trans e) ⟨o,x.keep a o h⟩
 ·exact pE.mpr<|st.bO a i<|(c a<|b.live a λq=>Tag.noConfusion<|e.symm.trans q).trans e
noncomputable def toC:Res aS->Res ζ
 |.ok .next a=>.ok .none ⟨[],a.σ⟩
 |.ok (.ret p) a=>.ok p ⟨[],a.σ⟩
 |.err k a=>.err k ⟨[],a.σ⟩
 |.stuck=>.stuck
noncomputable def afq(hi:Option ζ)(ps:List ζ):List ζ:=match hi with|none=>ps|some q=>ps++[q]
def av(np:Nat)(hi:Option ζ)(eE:Nat)(d:bL):cn:=λps σ=>if(afq hi ps).length=np then toC (d ⟨(afq hi ps).map some++List.replicate eE none,σ⟩)else .stuck
inductive DfltIs:Expr->ζ->Prop
 |none (k p:_):DfltIs (.Constant .none k p) .none
 |bool (b k p:_):DfltIs (.Constant (.bool b) k p) (.bool b)
 |int (i k p:_):DfltIs (.Constant (.int i) k p) (.int i)
theorem DfltIs.rel{r:ax}{v:Value}(h:DfltIs e q)(c:e.ConstVal v):Rel G r q v:=by
 cases h with
 |none=>obtain rfl:v=.none:=c;exact .none
 |bool b=>obtain rfl:v=.bool b:=c;exact .bool _
 |int i=>obtain⟨t,rfl⟩:∃t,v=.int i t:=c;exact .int _ _
def dfltOk(params:Arguments):Option ζ->Prop
 |none=>params.defaults=[]
 |some q=>∃e,params.defaults=[e]/\DfltIs e q
structure t6(scope:Scope)(ns:List Str):Prop where
 kind:scope.kind=.function
 names:∀n∈ns,scope.names.lookup n=some .local\/scope.names.lookup n=some .cell
 nodup:ns.Nodup
 DF:∀n∈ns,(n==("__classdict__":Str))=false
 zero:scope.names.lookup (".0":Str)=none
theorem ID{r:ax}{a:Addr}{ns:List Str}
 (x:InCallC r.s (callEnvC fd r.s.heap.objs.size a).locals (bindL (callEnvC fd r.s.heap.objs.size a).kindOf (ns.zip vs) λy=>none) (callEnvC fd r.s.heap.objs.size a).cells (bindC (callEnvC fd r.s.heap.objs.size a).kindOf (ns.zip vs) λy=>none) aO):
 l2 r (callEnvC fd r.s.heap.objs.size a) (bindL (callEnvC fd r.s.heap.objs.size a).kindOf (ns.zip vs) λy=>none) (bindC (callEnvC fd r.s.heap.objs.size a).kindOf (ns.zip vs) λy=>none) aO:=by
 obtain⟨g,tk,c⟩:=x.toInCall.same
 refine⟨by rw[c],by rw[c],x.toInCall.keep,λb q=>dd ?_,x.toInCall.ns,x.cell,λn h k d f=>name_of_addr x.apart (mem_of_lookup d)<|mem_of_lookup f⟩
 rcases q with rfl|⟨n,e⟩
 ·exact Nat.le_refl _
 ·exact Nat.le_of_lt<|x.above n b<|mem_of_lookup e
theorem aL.enter{r:ax}{a:Addr}{ns ae1:List Str}(u:oi (K+1) A)(H:Frs A r)(b:ae0 G r σ)(J:bV G r ps vs)(B:vs.length=ns.length)
 (T:fd.globals=mainGlobals) (M:fd.builtins=builtinsNs) (ok:t6 fd.scope<|ns++ae1)
 (x:l2 r (callEnvC fd r.s.heap.objs.size a) (bindL (callEnvC fd r.s.heap.objs.size a).kindOf (ns.zip vs) λc=>none) (bindC (callEnvC fd r.s.heap.objs.size a).kindOf (ns.zip vs) λc=>none) aO):
 aL (s:=⟨G,K,⟨fd.scope,ns++ae1⟩⟩) ⟨A.deeper<|callEnvC fd r.s.heap.objs.size a,callEnvC fd r.s.heap.objs.size a⟩ ⟨ps.map some++List.replicate ae1.length none,σ⟩ ⟨aO,jh (callEnvC fd r.s.heap.objs.size a) r.T,r.a6⟩:=by
 refine Θ λφ=>?_
 have d:=J.len
 have E:∀n,n∈ns++ae1->∀w,(fd.scope.names.lookup n=some .local->bindL (callEnvC fd r.s.heap.objs.size a).kindOf (ns.zip vs) (λc=>none) n=w)->(fd.scope.names.lookup n≠some .local->bindC (callEnvC fd r.s.heap.objs.size a).kindOf (ns.zip vs) (λc=>none) n=w)->
  nA (s:=⟨G,K,⟨fd.scope,ns++ae1⟩⟩) ⟨A.deeper<|callEnvC fd r.s.heap.objs.size a,callEnvC fd r.s.heap.objs.size a⟩ ⟨aO,jh (callEnvC fd r.s.heap.objs.size a) r.T,r.a6⟩ (bindL (callEnvC fd r.s.heap.objs.size a).kindOf (ns.zip vs) λc=>none) n w:=λn P w Q S=>by
  refine Θ λI=>?_
  rcases ok.names n P with q|q
  ·exact I<|.loc q<|Q q
  ·obtain⟨k,t⟩:=Option.isSome_iff_exists.mp<|show((callEnvC fd r.s.heap.objs.size a).cells.lookup n).isSome=true from kH<|.inl<|mem_of_lookup q;exact I<|.cell q t (S (λe=>nomatch q.symm.trans e)▸x.cell n k t)<|.inl<|mU<|.inr ⟨n,t⟩
 refine φ ⟨⟨u.handled,?_,?_⟩,λc=>H.ex.elim λl h=>⟨l,Around.frames_deeper h.1⟩,⟨rfl,ok.kind,T,M,ok.nodup,ok.DF,x.apart⟩,(x.base b).1,⟨?_,mU<|.inl rfl,_,x.ns,λi n p m R=>?_⟩,?_⟩
 ·show A.depth+1+K<=700;have:=u.depth;exact(aV 0x100e2bc38919118000e2bc389911810 [_,_] ι this)
 ·show A.units+3+8*K<=9000;have:=u.units;exact(aV 0x100e2328489c18189318000e2328489c911818180 [_,_] ι this)
 ·show(ps.map some++List.replicate ae1.length none).length=(ns++ae1).length;refine Δ▸?_;rw[Δ,length_map,length_replicate,d,B]
 ·have g:(ns++ae1)[i]?=some n:=m;have f:(ps.map some++List.replicate ae1.length none)[i]?=some p:=R;by_cases j:i<ns.length;have D:=(nodup_append.mp ok.nodup).1
  ·rw[List.getElem?_append_left j]at g;rw[List.getElem?_append_left (by rw[length_map,d,B];exact j)]at f;rw[List.getElem?_map]at f;obtain⟨q,N,rfl⟩:=Option.map_eq_some_iff.mp f;refine J.at_ N λv F mF=>⟨some v,E n (List.mem_of_getElem? m) _ (λq=>vw D g F q) λq=>vv D g F q,rfl,λy z Γ O=>?_⟩;obtain rfl:=Φ Γ;obtain rfl:=Φ O;exact mF.mono (x.base b).2
  ·have C:n∉ns:=λq=>by rw[List.getElem?_append_right<|Nat.le_of_not_lt j]at g;exact(nodup_append.mp ok.nodup).2.2 n q n (List.mem_of_getElem? g) rfl
   rw[List.getElem?_append_right (by rw[length_map,d,B];exact Nat.le_of_not_lt j)]at f;obtain rfl:=List.eq_of_mem_replicate<|List.mem_of_getElem? f;exact⟨none,E n (List.mem_of_getElem? m) _ (λc=>nG C) λc=>nF C,rfl,λy z e=>cR e⟩
 ·obtain⟨l,e,Z⟩:=H.ex;refine⟨callEnvC fd r.s.heap.objs.size a::l,Around.frames_deeper e,λenv he=>?_⟩;rcases ae6 he with rfl|he
  ·exact⟨(λq=>nomatch ok.kind.symm.trans q),rfl,⟨_,x.ns⟩,.inr<|mU<|.inl rfl⟩
  ·obtain⟨U,V,⟨m',L⟩,X⟩:=Z env he;exact⟨U,V,⟨m',L.at<|x.keep _⟩,by refine(?_:jh _ _ _=_\/jh _ _ _=_);refine(sR λq=>(L.elim λo Y=>Y.elim λc j9=>j9.elim λc lT=>lT.elim λe c=>⟨o,e⟩:bA r.h env.locals).ne<|x.dead _ q)▸?_;exact X⟩
theorem d3.of_body{X:Addr->Prop}{f:Addr}{name qual:Str}{params:Arguments}{scope:Scope}(U:AV G)(e0:FnAt X G.s.heap f name qual params body scope){ae1:List Str}{d:bL}(hi:Option ζ)
 (V:gG ⟨G,K,⟨scope,params.args.map (·.arg)++ae1⟩⟩ body d) (Z:fH params=true) (R:scope.isCoroutine=false) (P:scope.isGenerator=false) (ok:t6 scope (params.args.map (·.arg)++ae1)) (S:dfltOk params hi):
 d3 G (K+1) f (av params.args.length hi ae1.length d):=by
 obtain⟨qH,pm,dB,doc,p,O,_,_,μ,i,Y⟩:=e0
 refine⟨⟨_,_,O,rfl,rfl⟩,λA r σ ps vs Q E cc Fq b H u g=>?_⟩
 refine Θ λt=>?_
 unfold av at g
 by_cases c:(afq hi ps).length=params.args.length
 ·rw[if_pos c]at g;have J:=(nodup_append.mp ok.nodup).1
  have M:∃s,bV G r (afq hi ps) s/\BindsTo r.s (defFd name qual params body scope mainGlobals qH .none none pm (.ref dB) doc) ⟨vs,[]⟩ ((params.args.map (·.arg)).zip s):=by
   refine Θ λm=>?_
   clear U V R P μ O
   cases hi with
   |none=>
    refine Θ λI=>?_
    have L:=S
    replace i:=L▸i
    cases p with
    |cons _ _=>exact I<|m i.elim
    |nil=>
     rcases Y with⟨_,e⟩|⟨e,_⟩
     ·subst e;refine I<|m ?_;exact⟨vs,u,Cz Z J (u.len.symm.trans c) rfl⟩
     ·refine I<|m ?_;exact(e rfl).elim
   |some q=>
    obtain⟨e,L,z⟩:=S
    replace i:=L▸i
    cases p with
    |nil=>exact m i.elim
    |cons F p=>
     cases p with
     |cons _ _=>exact m i.2.elim
     |nil=>
      rcases Y with⟨e',_⟩|⟨_,T,rfl,_,bJ⟩
      ·cases e'
      ·have w:ps.length+1=params.args.length:=by simpa[afq]using c
       have dy:params.args.map (·.arg)≠[]:=λq=>by have:=congrArg length q;simp at this;rw[this]at w;simp at w
       refine m ⟨vs++[F],u.append<|.cons (z.rel i.1) .nil,?_⟩;rw[←(dropLast_concat_getLast dy)]at J⊢;exact Cy Z (dropLast_concat_getLast dy).symm J (by rw[length_dropLast,length_map,←u.len];exact(ck 0x102e2012e19118202e191180 [_,_,_] ι w<|Nat.sub_add_cancel<|aV 0x120e3e838111802e191180 [_,_] ι w)) rfl (b.eW _ _ bJ) rfl
  obtain⟨s,mF,Dd⟩:=M;have vJ:s.length=(params.args.map (·.arg)).length:=by rw[←mF.len,c,length_map]
  refine t<|wpAny_call<|Ac (Nat.lt_of_le_of_lt (Nat.le_trans (le_add_right _ _) cc.depth)<|of_decide_eq_true rfl) (b.eW _ _ O) rfl (G.T.inv.limit.keeps b.eW) (μ.at λo e=>b.eW _ _ e) rfl Dd rfl (λx N=>?_) (λaO N=>?_) R P ok.kind
  ·rcases ok.names _ (List.mem_append_left _ (List.of_mem_zip N).1)with q|q
   ·exact .inl q
   ·exact .inr ⟨q,kH<|.inl<|mem_of_lookup q⟩
  ·have n:=ID N;refine V _ _ _ (λf s'=>Q (match f with|.ret v=>v|_=>.none) s') _ (aL.enter cc Fq b mF vJ rfl rfl ok n) ?_;generalize d _=y at g⊢;cases y with
   |stuck=>exact g
   |err k a'=>
    intro v r' j st x;refine Θ λt=>?_;obtain⟨l,e,hf⟩:=j.mX.ex;obtain⟨D,fu⟩:=j.top ok.zero;refine t ?_;refine U _ _ D r'.hide a'.σ k v _ _ fu (λenv Gd=>(j.mX.hide.ex.elim λl h=>by obtain rfl:=Φ<|fu.symm.trans h.1;exact h.2 env Gd)) j.base.hide x.hide λbz Z1 Y9 C B=>?_
    exact g v bz Z1 ((n.out b H st).trans Y9 b.live j.base.hide.live) (λq e=>gz<|(congrFun C q).symm.trans e) B
   |ok o a'=>
    intro f r' j st x
    cases x with
    |next=>exact g .none r'.hide j.base.hide (n.out b H st) (λq=>gz) .none
    |ret x=>exact g _ r'.hide j.base.hide (n.out b H st) (λq=>gz)<|x.mono eX
 ·rw[if_neg c]at g;exact t g.elim
structure vk(i:Nat)(r r':ax):Prop where
 t:∀b,r.T b≠.bO i->bA r.h b->r'.T b=r.T b/\∀o,r.h.get? b=some o->r'.h.get? b=some o
 bO:∀b,r.T b=.bO i->r'.T b=.bO i
 new:∀b,cx r.h b->r'.T b=.no\/r'.T b=.bO i
 live:∀b,r'.T b=.bO i->bA r'.h b
 g:r'.s.gens=r.s.gens
 os:r'.s.os=r.s.os
 m:∀j,j≠i->r'.a6[j]?=r.a6[j]?
 adN:∀x,(r.a6[i]?).map c2.addr=some x->(r'.a6[i]?).map c2.addr=some x
theorem kY{h:Heap}(b:Addr)(k:bA h b->P)(d:cx h b->P):P:=by
 cases e:h.get? b with
 |none=>exact d e
 |some o=>exact k ⟨o,e⟩
theorem ae0.SG{r:ax}(b:ae0 G r σ){a:Addr}{i:Nat}(e:r.T a=.bO i):i<r.a6.length:=(b.lH a i e).elim λx c=>c.elim λh x=>(b8 h).1
theorem ae0.alive{r:ax}(b:ae0 G r σ){a:Addr}{t:Tag}(e:r.T a=t)(n:t≠.no):bA r.h a:=b.live a λq=>n<|e.symm.trans q
theorem vk.mono{i:Nat}{r:ax}(x:vk i r r')(b:ae0 G r σ):dq r r' where
 z:=λa o e=>(x.t a (λq=>Tag.noConfusion<|e.symm.trans q) ⟨o,b.fy a o e⟩).1.trans e
 m:=λj y e=>by
  by_cases q:j=i
  ·subst q;exact x.adN y e
  ·rw[x.m j q];exact e
theorem vk.fi{i:Nat}{r:ax}(x:vk i r r')(b:ae0 G r σ):bt r r' where
 mono:=x.mono b
 keep:=λa e=>.of λo q=>(x.t a (λq=>Tag.noConfusion<|e.symm.trans q) ⟨o,q⟩).2 o q
 no:=λa e l=>(x.t a (λq=>Tag.noConfusion<|e.symm.trans q) l).1.trans e
 fr:=λa=>⟨λe=>have l:=b.alive e Tag.noConfusion;⟨(x.t a (λq=>Tag.noConfusion<|e.symm.trans q) l).1.trans e,l⟩,λe=>(x.t a (λq=>Tag.noConfusion<|(x.bO a q).symm.trans e.1) e.2).1.symm.trans e.1⟩
 bO:=λa j e=>by
  by_cases q:j=i
  ·subst q;exact x.bO a e
  ·exact(x.t a (λc=>q<|by injection e.symm.trans c)<|b.alive e Tag.noConfusion).1.trans e
theorem ae0.qy{i:Nat}{r:ax}(b:ae0 G r σ)(x:vk i r r')(n:∀a,r'.T a=.bO i->∃ro,r'.a6[i]?=some ro/\ro.own a)(len:r'.a6.length=σ'.length)(s:∀j,j≠i->σ'[j]?=σ[j]?)(h:∀ro m,r'.a6[i]?=some ro->σ'[i]?=some m->cT G r' i ro m):ae0 G r' σ':=by
 have p:=x.mono b;refine⟨λa o e=>p.z _ _<|b.i1 a o e,λa o e=>kY (h:=r.h) a (λl=>?_) λd=>?_,len,λj ro m f g=>?_,λa q=>kY (h:=r.h) a (λl=>?_) λd=>?_,x.g.trans b.gens,x.os.trans b.os,λa j e=>kY (h:=r.h) a (λl=>?_) λd=>?_⟩
 ·obtain⟨q,k⟩:=x.t a (λq=>Tag.noConfusion<|(x.bO a q).symm.trans e) l;exact k o<|b.fy a o<|q.symm.trans e
 ·exact(x.new a d).elim (λq=>Tag.noConfusion<|q.symm.trans e) λq=>Tag.noConfusion<|q.symm.trans e
 ·by_cases q:j=i
  ·subst q;exact h ro m f g
  ·rw[x.m j q]at f;rw[s j q]at g;exact(b.roots j ro m f g).keep p λa t=>have y:=x.t a (λc=>q<|by injection t.symm.trans c)<|b.alive t Tag.noConfusion;⟨y.1.trans t,y.2⟩
 ·by_cases c:r.T a=.bO i
  ·exact x.live a<|x.bO a c
  ·obtain⟨o,e⟩:=l;exact⟨o,(x.t a c ⟨o,e⟩).2 o e⟩
 ·exact(x.new a d).elim (λe=>(q e).elim) λe=>x.live a e
 ·by_cases q:r.T a=.bO i
  ·cases (x.bO a q).symm.trans e;exact n a e
  ·have e':=(x.t a q l).1.symm.trans e;rw[x.m j λz=>q<|z▸e'];exact b.lH a j e'
 ·exact(x.new a d).elim (λq=>Tag.noConfusion<|q.symm.trans e) λq=>by cases q.symm.trans e;exact n a e
variable {b6 r₁:ax}{s':Shared}{sp:Pos}
section
variable {c:Fr s}
theorem aL.qy{i:Nat}{r:ax}(g:aL c a r)(x:vk i r r')(f:∀a,r'.T a=.bO i->∃ro,r'.a6[i]?=some ro/\ro.own a)(len:r'.a6.length=σ'.length)(e:∀j,j≠i->σ'[j]?=a.σ[j]?)(h:∀ro m,r'.a6[i]?=some ro->σ'[i]?=some m->cT s.G r' i ro m):aL c ⟨a.ρ,σ'⟩ r'/\bt r r':=by have d:∀b,r.T b=.no\/r.T b=.fr->bA r.h b->r'.T b=r.T b/\c9 r.h r'.h b:=λb t l=>have y:=x.t b (λq=>t.elim (λt=>Tag.noConfusion<|t.symm.trans q) λt=>Tag.noConfusion<|t.symm.trans q) l;⟨y.1,.of y.2⟩;exact⟨⟨g.ij,g.top,g.ok,g.base.qy x f len e h,g.vars.keep (x.mono g.base) d,g.mX.keep λb t l=>have y:=d b t l;⟨y.1▸t,y.2⟩⟩,x.fi g.base⟩
theorem aL.Y3{r:ax}{i:Nat}{x:Addr}(g:aL c a r)(e:a.σ[i]?=some (.lst xs))(A:(r.a6[i]?).map c2.addr=some x)(u:SameBut x r.h κ)(v:κ.get? x=some (bW ws n))(y:bV s.G r ys ws):
 aL c ⟨a.ρ,a.σ.set i<|.lst ys⟩ ⟨{r.s with heap:=κ,toks:=tk},r.T,r.a6⟩/\bt r ⟨{r.s with heap:=κ,toks:=tk},r.T,r.a6⟩:=by
 refine Θ λC=>?_
 obtain⟨ro,k,p,w⟩:=g.base.root e A
 cases w with
 |@lst h _ _ _ t q _=>
  replace t:=(show h=x from p)▸t;replace q:=(show h=x from p)▸q;replace k:=(show h=x from p)▸k;refine C ?_;refine g.qy ⟨λb q l=>⟨rfl,λo e=>(u.2 b λz=>q<|z▸t).trans e⟩,λl e=>e,λb d=>.inl<|g.base.no d,λb e=>?_,rfl,rfl,λl l=>rfl,λl e=>e⟩ (λa e=>g.base.lH a i e) (by rw[length_set];exact g.base.len) (λj q=>List.getElem?_set_ne<|Ne.symm q) λD m B f=>?_
  ·by_cases q:b=x
   ·exact⟨_,q▸v⟩
   ·obtain⟨o,e⟩:=g.base.alive e Tag.noConfusion;exact⟨o,(u.2 b q).trans e⟩
  ·obtain rfl:=Φ<|k.symm.trans B;replace f:=(List.getElem?_set_self (b8 e).1)▸f;obtain rfl:=Φ f;exact .lst t v<|y.mono ⟨λl l e=>e,λl l e=>e⟩
theorem Fn{r:ax}(t:∀a o,r.T a=.z o->r'.T a=.z o)(m:r'.a6=r.a6++[ro]):dq r r':=⟨t,λj x e=>by obtain⟨y,q,_⟩:=Option.map_eq_some_iff.mp e;rw[m,List.getElem?_append_left (b8 q).1];exact e⟩
theorem aL.give{r:ax}{t:Tag}{h:List c2}(g:aL c a r)(L:r.T D=.no)(X:bA r.h D)(J:∀m,¬r.h.Ns D m)(G:∀w,¬r.h.IsCell D w)(j:dq r ⟨r.s,upd r.T D t,h⟩)(hz:∀o,t=.z o->r.h.get? D=some o)(F:∀i,t=.bO i->∃ro,h[i]?=some ro/\ro.own D)(T:∀(i:Nat) ro,r.a6[i]?=some ro->h[i]?=some ro)(len:h.length=σ'.length)
 (H:∀i ro m,h[i]?=some ro->σ'[i]?=some m->(r.a6[i]?=some ro/\a.σ[i]?=some m)\/cT s.G ⟨r.s,upd r.T D t,h⟩ i ro m):
 aL c ⟨a.ρ,σ'⟩ ⟨r.s,upd r.T D t,h⟩/\(∀b6,bt b6 r->cx b6.h D->(∀a,b6.T a≠.no->bA b6.h a)->bt b6 ⟨r.s,upd r.T D t,h⟩):=by
 refine Θ λY=>?_
 have u:∀b m,r.h.Ns b m->b≠D:=λb m n q=>J m<|q▸n
 obtain⟨S,B,K⟩:=g.vars.ex
 refine Y ⟨⟨g.ij,g.top,g.ok,⟨λb o e=>j.z _ _<|g.base.i1 b o e,λb o e=>?_,len,λi C m' V I=>?_,λb q=>?_,g.base.gens,g.base.os,λb i e=>?_⟩,⟨g.vars.len,(b7<|u _ _ B).trans g.vars.tag,S,B,λi n p z A=>?_⟩,?_⟩,λb6 st R l=>?_⟩
 ·have e:upd r.T D _ b=.z o:=e;by_cases q:b=D
  ·rw[q,cy]at e;exact q▸hz o e
  ·rw[b7 q]at e;exact g.base.fy b o e
 ·exact(H i C m' V I).elim (λy=>(g.base.roots i C m' y.1 y.2).keep j λb t=>⟨(b7<|(λb t e q f=>q (e.symm.trans<|f▸L):∀b t,r.T b=t->t≠.no->b≠D) b _ t Tag.noConfusion).trans t,λZ e=>e⟩) id
 ·have q:upd r.T D _ b≠.no:=q;by_cases f:b=D
  ·exact f▸X
  ·rw[b7 f]at q;exact g.base.live b q
 ·have e:upd r.T D t b=.bO i:=e;by_cases q:b=D
  ·rw[q,cy]at e;rw[q];exact F i e
  ·rw[b7 q]at e;exact(g.base.lH b i e).elim λro Q=>Q.elim λz A=>⟨ro,T i ro z,A⟩
 ·obtain⟨w,v,q⟩:=K i n p z A;refine⟨w,?_,q.mono j⟩;cases v with
  |loc a b=>exact .loc a b
  |cell a b d U=>have f:upd r.T D t _=r.T _:=b7 λf=>G _ (by rw[←f];exact d);exact .cell a b d<|U.imp f.trans λt=>⟨f.trans t.1,t.2⟩
 ·obtain⟨l,e,M⟩:=g.mX.ex;refine⟨l,e,λenv E=>?_⟩;obtain⟨N,O,⟨m',x⟩,P⟩:=M env E;exact⟨N,O,⟨m',x⟩,P.imp (b7<|u _ _ x).trans (b7<|u _ _ x).trans⟩
 ·have k:∀b,bA b6.h b->b≠D:=λb l q=>l.ne<|q▸R;refine⟨st.mono.trans j,st.keep,λb e l=>(b7<|k b l).trans<|st.no b e l,λb=>⟨λe=>?_,λe=>(st.fr b).mpr ⟨(b7<|k b e.2).symm.trans e.1,e.2⟩⟩,λb i e=>(b7<|k b<|l b λq=>Tag.noConfusion<|e.symm.trans q).trans<|st.bO b i e⟩;obtain⟨e,l⟩:=(st.fr b).mp e;exact⟨(b7<|k b l).trans e,l⟩
theorem sU{r:ax}(c:r.T D=.no):dq r ⟨r.s,upd r.T D<|.z o,r.a6⟩:=⟨λb o e=>(b7 λq=>Tag.noConfusion<|e.symm.trans<|q▸c).trans e,λx x e=>e⟩
theorem ql{r:ax}{i:Nat}(c:r.T D=.no):dq r ⟨r.s,upd r.T D<|.bO i,r.a6++[ro]⟩:=Fn (λb o e=>(b7 λq=>Tag.noConfusion<|e.symm.trans<|q▸c).trans e) rfl
theorem mf{r:ax}{m:Ξ}{P:Nat->c2->Ξ->Prop}(b:r.a6.length=σ.length)(h:P σ.length ro m):(r.a6++[ro]).length=(σ++[m]).length/\∀i f m',(r.a6++[ro])[i]?=some f->(σ++[m])[i]?=some m'->(r.a6[i]?=some f/\σ[i]?=some m')\/P i f m':=by
 refine⟨by rw[Δ,Δ,b];rfl,λi f m' d c=>?_⟩;refine Θ λg=>?_;rcases Nat.lt_or_ge i r.a6.length with q|q
 ·exact g<|.inl ⟨(List.getElem?_append_left q).symm.trans d,(List.getElem?_append_left<|b▸q).symm.trans c⟩
 ·rw[List.getElem?_append_right q]at d;replace c:=(List.getElem?_append_right<|b▸q)▸c;replace c:=b▸c;cases e:i-r.a6.length with
  |zero=>refine Θ λj=>?_;replace d:=e▸d;replace c:=e▸c;obtain rfl:=Φ d;cases c;refine j<|g ?_;refine(Nat.le_antisymm (Nat.sub_eq_zero_iff_le.mp e) q)▸(b▸?_);exact .inr h
  |succ k=>rw[e]at d;exact cR d
inductive o2(G:aB)(b6 r:ax)(xs:List ζ)(v:Value):Prop
 |mk (D vs n:_):v=.ref D->cx b6.h D->r.T D=.no->r.h.get? D=some (bW vs n)->bV G r xs vs->o2 G b6 r xs v
def fc(c:Fr s)(r:ax)(d:Res<|List ζ)(Q:Value->Shared->Prop)(E:Value->Shared->Prop):Prop:=match d with
 |.stuck=>False
 |.ok xs a=>∀x r',aL c a r'->bt r r'->o2 s.G r r' xs x->Q x r'.s
 |.err k a=>∀v r',aL c a r'->bt r r'->Flying s.G k r' v->E v r'.s
def b2(s:d8)(e:Expr)(d:aI):Prop:=∀(c:Fr s) a r Q E,aL c a r->fc c r (d a) Q E->wpAny s.G.M c.A (eval e c.env) Q E r.s
theorem o2.before{r:ax}{v:Value}(h:o2 G r₁ r xs v)(st:bt b6 r₁)(l:∀a,b6.T a≠.no->bA b6.h a)(c:∀a,r₁.T a≠.no->bA r₁.h a):o2 G b6 r xs v:=by
 obtain⟨D,vs,n,e,d,q,f,g⟩:=h
 refine⟨D,vs,n,e,kY D (λw=>?_) id,q,f,g⟩
 cases b:b6.T D with
 |no=>exact((st.keep D b).live w).ne d
 |z o=>exact(c D λq=>Tag.noConfusion<|(st.mono.z D o b).symm.trans q).ne d
 |bO i=>exact(c D λq=>Tag.noConfusion<|(st.bO D i b).symm.trans q).ne d
 |fr=>exact(c D λq=>Tag.noConfusion<|((st.fr D).mp b).1.symm.trans q).ne d
theorem jo{h:Heap}(e:h.get? D=some (bW vs n)):(∀m,¬h.Ns D m)/\∀w,¬h.IsCell D w:=⟨λm ⟨o,es,b,e',d,y⟩=>by cases e.symm.trans e';exact Data.noConfusion d,λw ⟨o,e',d⟩=>by cases e.symm.trans e';exact Data.noConfusion d⟩
noncomputable def yg:Res (List ζ)->Res ζ
 |.ok xs a=>.ok (.list xs) a
 |.err k a=>.err k a
 |.stuck=>.stuck
theorem fc.BN{r:ax}{d:Res<|List ζ}(v:∀a,r.T a≠.no->bA r.h a)(p:bM c r (Rel s.G) (yg d) Q E):fc c r d Q E:=by
 cases d with
 |stuck=>exact p
 |err k a=>exact p
 |ok xs a=>intro x r' g st h;refine Θ λm=>?_;obtain⟨D,vs,n,rfl,t,b,f,j⟩:=h;obtain⟨q,k⟩:=g.give b ⟨_,f⟩ (jo f).1 (jo f).2 (sU (o:=bW vs n) b) (λo e=>by injection e with e;exact e▸f) (λi e=>nomatch e) (λy y e=>e) g.base.len λy y y u l=>.inl ⟨u,l⟩;exact m<|p _ ⟨r'.s,upd r'.T D<|.z<|bW vs n,r'.a6⟩ q (k r st t v)<|.list cy (j.mono<|sU (o:=bW vs n) b).len (j.mono<|sU b).get
noncomputable def GB:Res (List ζ)->Res ζ
 |.ok xs a=>.ok (.ref a.σ.length) ⟨a.ρ,a.σ++[.lst xs]⟩
 |.err k a=>.err k a
 |.stuck=>.stuck
theorem fc.SI{r:ax}{d:Res<|List ζ}(t:∀a,r.T a≠.no->bA r.h a)(p:bM c r (Rel s.G) (GB d) Q E):fc c r d Q E:=by
 cases d with
 |stuck=>exact p
 |err k a=>exact p
 |ok xs a=>intro x r' g st h;refine Θ λl=>?_;obtain⟨D,vs,n,rfl,q,f,b,j⟩:=h;obtain⟨m,k⟩:=g.give f ⟨_,b⟩ (jo b).1 (jo b).2 (ql (i:=a.σ.length) f) (λo e=>nomatch e) (λi e=>by cases e;exact⟨.lst D,by rw[←g.base.len,getElem?_concat_length],rfl⟩) (λi ro e=>(List.getElem?_append_left (b8 e).1).trans e) (mf (P:=cT s.G ⟨r'.s,upd r'.T D<|.bO a.σ.length,r'.a6++[.lst D]⟩) g.base.len<|.lst cy b<|j.mono<|ql f).1 (mf g.base.len<|.lst cy b<|j.mono<|ql f).2;refine l ?_;exact p _ ⟨r'.s,upd r'.T D<|.bO a.σ.length,r'.a6++[.lst D]⟩ m (k r st q t)<|.ref (by show((r'.a6++[c2.lst D])[a.σ.length]?).map c2.addr=_;rw[←g.base.len,getElem?_concat_length];rfl)
def Bb(d:aI):Den:=λa=>yg<|d a
def Pz(d:aI):Den:=λa=>GB<|d a
theorem aw.BN{d:aI}(h:b2 s e d):aw s e<|Bb d:=λc a r Q E g p=>h c a r Q E g<|.BN g.base.live p
theorem aw.SI{d:aI}(h:b2 s e d):aw s e<|Pz d:=λc a r Q E g p=>h c a r Q E g<|.SI g.base.live p
theorem fc.step{r:ax}{d:Res<|List ζ}(h:fc c r d Q E)(g:aL c a r)(e:aL c a' r')(st:bt r r'):fc c r' d Q E:=by
 cases d with
 |stuck=>exact h
 |ok b a=>exactλx bz f s b=>h x bz f (g.fi e st s)<|b.before st g.base.live e.base.live
 |err k a=>exactλx bz f s b=>h x bz f (g.fi e st s) b
theorem aP.qC{t:Env->Sem α}{d:aD->Res β}{R:ax->β->α->Prop}{r:ax}{k:β->aD->Res (List ζ)}{W:α->Shared->Prop}(h:aP s t d R)(g:aL c a r)(p:fc c r ((d a).bind k) Q E)
 (ae1:∀x r' b a',aL c a' r'->bt r r'->R r' b x->fc c r' (k b a') Q E->W x r'.s):wpAny s.G.M c.A (t c.env) W E r.s:=by
 refine h c a r W E g ?_
 generalize d a=y at p
 cases y with
 |stuck=>exact p
 |ok b a'=>exactλx r' e st q=>ae1 x r' b a' e st q<|p.step g e st
 |err k a'=>exact p
theorem fc.new{r:ax}(p:fc c r (.ok xs a) Q E)(g:aL c a r)(e:bV s.G r xs vs)(k:∀b o,r.h.get? b=some o->κ.get? b=some o)(d:cx r.h D)
 (f:κ.get? D=some (bW vs n)):Q (.ref D) {r.s with heap:=κ,toks:=tk}:=by
 obtain⟨h,st⟩:=g.grow k d<|.inl rfl
 exact p _ _ h st ⟨D,vs,n,rfl,d,cy,f,e.mono st.mono⟩
theorem fc.push{r:ax}(p:fc c r (.ok xs a) Q E)(g:aL c a r)(d:bV s.G r xs vs):Q (.ref r.h.objs.size) {r.s with heap:=r.h.push<|bW vs 0,toks:=tk}:=p.new g d (λb bu e=>get?_push_of_some _ e) (dd<|Nat.le_refl _)<|get?_push_size _ rfl
def CO(ds:aI):aI:=λa=>(ds a).bind λps a=>if ps.length<=100 then .ok ps a else .stuck
theorem c5(h:n<=100):n<=sizeLine:=Nat.le_trans h (by rw[sizeLine_eq];decide)
theorem b2.list(h:eb s es ds):b2 s (.List es pos)<|CO ds:=λc a r Q E g p=>wpAny_List ((h _).qC g p λvs aX ps a1 b d bj p=>by
 by_cases q:ps.length<=100
 ·rw[if_pos q]at p;exact⟨c5<|bj.len▸q,p.push b bj⟩
 ·rw[if_neg q]at p;exact p.elim)
def Io(ds:aI):Den:=λa=>(ds a).bind λps a=>if ps.length<=100 then .ok (.tup ps) a else .stuck
theorem aw.tup(h:eb s es ds):aw s (.Tuple es k pos)<|Io ds:=λc a r Q E g p=>wpAny_Tuple ((h _).then g p λvs aX ps a1 b d bj p=>by
 by_cases q:ps.length<=100
 ·rw[if_pos q]at p;exact⟨c5<|bj.len▸q,p.R4 b bj⟩
 ·rw[if_neg q]at p;exact p.elim)
def KX(dl dr:Den):aI:=λa=>(dl a).bind λp a=>(dr a).bind λq a=>.of<|(view a p).bind λxs=>(view a q).bind λys=>if xs.length+ys.length<=sizeLine then some (xs++ys,a)else none
theorem fc.of{r:ax}{o:Option<|List ζ×aD}(p:fc c r (.of o) Q E)(k:∀x,o=some x->fc c r (.ok x.1 x.2) Q E->P):P:=by
 cases o with
 |none=>exact p.elim
 |some x=>exact k x rfl p
theorem b2.add{l:Expr}(C:aw s l dl)(j:aw s e dr):b2 s (.BinOp l .Add e pos)<|KX dl dr:=λc a r Q E g b=>
 wpAny_BinOp (C.qC g b λv aX p a1 u F bj b=>j.qC u b λw G q a2 f t bX b=>b.of λx d b=>ω d λxs A d=>ω d λys B d=>bY d λo d=>by refine Θ λD=>?_;obtain rfl:=Φ d;obtain⟨x,vs,n,rfl,z,h⟩:=f.view (bj.mono t.mono) A;obtain⟨y,ws,m,rfl,k,i⟩:=f.view bX B;refine D ?_;exact P.add_list z k (by rw[append_toArray];exact b.push f<|h.append i) (by rw[List.size_toArray,List.size_toArray,←h.len,←i.len];exact o))
def afr(p:ζ):Option<|Option Int:=((jN p).bind λx=>some none).or<|(gd p).bind λi=>some<|some i
noncomputable def fx{α:Type}(xs:List α)(lo b:Option Int):List α:=(xs.drop<|lo.elim 0<|clipAt xs.length).take<|b.elim xs.length (clipAt xs.length)-lo.elim 0 (clipAt xs.length)
def KO(p:ζ):Option<|List ζ:=p.v none (a:=some)
theorem EE{k:List ζ}(h:KO p=some k):p=.arg k:=kK (P:=λk=>p=.arg k) (by clear h;cases p<;>first|exact trivial|rfl) h
def CI(a:aD)(p:ζ):Option<|List ζ:=(KO p).or<|view a p
inductive Kt(G:aB)(r:ax)(v:Value)(xs:List ζ):Prop
 |mk (x vs:_):v=.ref x->bV G r xs vs->r.h.IsList x vs.toArray->Kt G r v xs
theorem aL.cut{r:ax}{v:Value}(g:aL c a r)(b:Rel s.G r p v)(e:CI a p=some xs):Kt s.G r v xs:=iU e (λe=>by
 replace b:=(EE e)▸b
 cases b with
 |arg h l k=>exact⟨_,_,rfl,⟨l,k⟩,h _ g.base.fy⟩) λe=>by
 obtain⟨x,vs,n,f,h,d⟩:=g.view b e
 exact⟨x,vs,f,d,jW h⟩
theorem qw{r:ax}{v:Value}{lo:Option Int}(b:Rel G r p v)(e:afr p=some lo):IsPart v lo:=iU e (λe=>ω e λx h e=>by
 obtain rfl:=Φ e;replace b:=(hh h)▸b;refine b.lB▸?_;exact .none) λe=>ω e λk h e=>by
 obtain rfl:=Φ e;obtain⟨t,rfl⟩:=b.jl h;exact .int _ _
theorem All.fx{R:α->β->Prop}{xs:List α}{ys:List β}(h:All R xs ys)(lo b:Option Int):All R (Internal.fx xs lo b)<|Internal.fx ys lo b:=by unfold Internal.fx;exact h.len▸((h.drop _).take _)
theorem JH(vs:List Value)(lo b:Option Int):slicePick vs.toArray lo b none=(fx vs lo b).toArray:=by simp only[slicePick_plain];simp[fx]
def k6(s:d8)(x:Option Expr)(d:Den):Prop:=aP s (evalPart x) d<|Rel s.G
theorem k6.none:k6 s none<|eg .none:=λc a r Q E g p=>ψ<|p.now g .none
theorem k6.some{e:Expr}{d:Den}(h:aw s e d):k6 s (some e) d:=h
def Ih(d dl b:Den):Den:=λa=>(d a).bind λp a=>(dl a).bind λl a=>(b a).bind λu a=>.of<|(CI a p).bind λxs=>(afr l).bind λlo=>(afr u).bind λc=>if xs.length<=sizeLine then some (.list<|fx xs lo c,a)else none
theorem BE{x:Addr}{vs:Array Value}(h:s'.heap.IsList x vs):s'.TypeIs (.ref x) "list":=h.typeIs
theorem aw.cut{lo n:Option Expr}{k:Den}(h:aw s e d)(H:k6 s lo dl)(C:k6 s n k):aw s (.Subscript e (.Slice lo n none sp) pos)<|Ih d dl k:=λc a r Q E g p=>
 Subscript_ (h.then g p λv aX L a1 D J bj p=>wpAny_Slice (H.then D p λj K N a2 F B bX p=>C.then F p λf t O M i q G p=>ψ (p.of λy b p=>ω b λxs dH b=>ω b λl dD b=>ω b λu d9 b=>bY b λA b=>by refine Θ λI=>?_;obtain⟨x,vs,rfl,o,m⟩:=i.cut ((bj.mono B.mono).mono q.mono) dH;obtain rfl:=Φ b;obtain⟨w,z⟩:=i.push;refine I<|jy (s:={t.s with heap:=t.h.push {cls:=.type "slice",data:=.fields #[j,f,.none]}}) (BE<|m.push {cls:=.type "slice",data:=.fields #[j,f,.none]}) list_getitem_lookup ?_;refine wpAny_getItem_list_slice (m.push {cls:=.type "slice",data:=.fields #[j,f,.none]}) (IsSliceOf.new ..) (qw (bX.mono q.mono) dD) (qw G d9) .none (cR) ?_ (by rw[List.size_toArray,←o.len];exact A);rw[JH];exact(p.step i w z).newList w<|(o.mono z.mono).fx l u)))
def Im(d:Den):Den:=λa=>(d a).bind λp a=>.of<|(view a p).bind λxs=>if xs.length<=sizeLine then some (.list xs.reverse,a)else none
theorem aw.rev{w m:Pos}(h:aw s e d):aw s (.Subscript e (.Slice none none (some<|.UnaryOp .USub (.Constant (.int 1) k w) m) sp) pos)<|Im d:=λc a r Q E g p=>by refine Subscript_<|h.then g p λv aX z a1 f A bj p=>wpAny_Slice<|ψ<|ψ<|p.of λy b p=>ω b λxs dH b=>bY b λt b=>?_;obtain rfl:=Φ b;refine(?_:wpAny _ _ (eval (.UnaryOp .USub (.Constant (.int 1) k _) m) c.env) _ _ _);refine υ<|wpAny_mkInt<|υ<|wpAny_standAt<|wpAny_holding<|P.neg_int ?_;refine Θ λu=>?_;obtain⟨x,vs,n,rfl,i,j⟩:=f.view bj dH;obtain⟨l,o⟩:=f.push;refine u<|jy (s:={aX.s with heap:=aX.h.push {cls:=.type "slice",data:=.fields #[.none,.none,.int (-1)<|aX.s.toks+ 1]},toks:=aX.s.toks+1+1}) (BE<|(jW i).push {cls:=.type "slice",data:=.fields #[.none,.none,.int (-1)<|aX.s.toks+ 1]}) list_getitem_lookup ?_;refine wpAny_getItem_list_slice ((jW i).push {cls:=.type "slice",data:=.fields #[.none,.none,.int (-1)<|aX.s.toks+ 1]}) (IsSliceOf.new ..) .none .none (.int _ _) (by intro q;cases q) ?_ (by rw[List.size_toArray,←j.len];exact t);rw[krv_pick];exact(p.step f l o).newList l (j.mono o.mono).reverse
end
noncomputable def mh(e:Expr):Bool:=e.ctorIdx==20||e.ctorIdx==21||e.ctorIdx==23
noncomputable def aff(e:Expr):Bool:=!(e.ctorIdx==22)
def fw(es:List Expr):Bool:=es.all aff&&decide (es.length<30)
theorem LX{Q:Expr->Prop}(h:mh e=true)(c:∀o x p,Q<|.Attribute o x p)(d:∀o i p,Q<|.Subscript o i p)(b:∀x p,Q<|.Name x p):Q e:=za h (za · (λh=>Expr.Attribute.elim (motive_1:=Q) e (eq_of_beq h) c) λh=>Expr.Subscript.elim (motive_1:=Q) e (eq_of_beq h) d) λh=>Expr.Name.elim (motive_1:=Q) e (eq_of_beq h) b
theorem sG{o:Expr}(h:mh o=true)(x:Str)(env:Env)(w:Sem Value):attributeBase o x env w=w:=by exact LX (Q:=λo=>attributeBase o x env w=w) h (λy y y=>rfl) (λy y y=>rfl) λy y=>rfl
theorem Cn(h:mh e=true)(x:Str)(pos:Pos)(env:Env):eval (.Attribute e x pos) env=(do
 let o←eval e env
 standAt pos.atName
 let r←holding [o] (getAttr o x true)
 letTemporaryGo e o r
 pure r):=by
 show(attributeBase e x env (eval e env)>>=_)=_
 rw[sG h]
theorem ho{e:Expr}(h:aff e=true)(es:List Expr)(env:Env):starEach (e::es) env=(false,eval e env)::starEach es env:=by cases e<;>first|exact absurd h Bool.false_ne_true|rfl
theorem lN:∀{es:List Expr},es.all aff=true->∀env,starEach es env=es.map λe=>(false,eval e env)
 |[],_,env=>rfl
 |e::es,h,env=>by have q:=bf<|all_cons.symm.trans h;rw[ho q.1,lN q.2];rfl
theorem n4(h:fw es=true):es.all aff=true:=(bf h).1
theorem rL(pos:Pos)(env:Env):∀es:List Expr,backTo pos (es.map λe=>(false,eval e env))=es.map λe=>(false,eval e env)
 |[]=>rfl
 |e::es=>congrArg ((false,eval e env)::·) (rL pos env es)
theorem nC(h:fw es=true)(pos:Pos)(env:Env):backTo pos (starEach es env)=es.map λe=>(false,eval e env):=by rw[lN<|n4 h,rL]
theorem vp(es:List Expr)(env:Env):(es.map λe=>(false,eval e env)).any (·.1)=false:=by
 induction es with
 |nil=>rfl
 |cons e es b=>exact b
theorem C7(h:fw es=true)(pos:Pos)(env:Env):methodCallForm es.length (backTo pos<|starEach es env) []=true:=by
 rw[nC h];unfold methodCallForm;have q:(es.map λe=>(false,eval e env)).all (λx=>!x.1)=true:=List.all_eq_true.mpr λx b=>by obtain⟨e,_,rfl⟩:=List.mem_map.mp b;rfl
 exact Eq.symm q▸((bf h).2)
variable {afa:Pos}
theorem tl{o:Expr}(h:mh o=true)(x:Str)(c:fw es=true)(d:(afa.endLine==pos.line)=true)(env:Env):eval (.Call (.Attribute o x afa) es [] pos) env=(do
 let b←eval o env
 standAt afa.atName
 let(f,first)←holding [b] (getMethod b x<|do return(←importBound o env).getD true)
 callWith pos f first (backTo pos<|starEach es env) []):=by
 refine(?_:(attributeBase o x env (eval o env)>>=λb=>standAt afa.atName>>=λz=>methodCall o x afa pos env b (es.length+0) (backTo pos<|starEach es env)<|backToKw pos [])=_)
 simp only[sG h]
 refine(?_:(eval o env>>=λb=>standAt afa.atName>>=λz=>holding [b] (if methodCallForm es.length (backTo pos<|starEach es env) []=true then _ else _)>>=λy=>(if(!methodCallForm es.length (backTo pos<|starEach es env) []||_)=true then _ else _)>>=_)=_)
 refine Eq.symm (C7 c pos env)▸(Eq.symm d▸?_)
 rfl
theorem HJ{k:Int}{j:Nat}(h:gT n k=some j)(c:0<=k->k=j->j<n->P)(d:k<0->-(n:Int)<=k->(k+n).toNat=j->j<n->P):P:=by
 unfold gT at h;by_cases q:0<=k
 ·rw[if_pos q]at h;exact bY h λb h=>c q (by rw[←Φ h];exact(toNat_of_nonneg q).symm) (by rw[←Φ h];exact(Int.toNat_lt q).mpr b)
 ·rw[if_neg q]at h;exact bY h λb h=>d (Int.not_le.mp q) b (Φ h) (by rw[←Φ h];clear h c d;grind)
section
variable {w:World}{s:Shared}
theorem MX{k:Int}{j:Nat}(h:k=j)(q:j<n)(s:n<=sizeLine):k<2^63:=by subst h;exact Ri (sizeLine_eq▸s)<|ofNat_lt.mpr q
theorem II{k:Int}(h:-(n:Int)<=k)(s:n<=sizeLine):-2^63<=k:=I4 (sizeLine_eq▸s) h
theorem D3{l:Addr}{items:Array Value}{k:Int}{t:Tok}{j:Nat}{v:Value}{Q:Unit->Shared->Prop}(c:IsL s.heap l items n)(o:gT items.size k=some j)(f:items.size<=sizeLine)
 (r:∀κ p,IsL κ l (items.setIfInBounds j v) p->SameBut l s.heap κ->Q () {s with heap:=κ}):
 wpAny (model prog w) A (setItem (.ref l) (.int k t) v) Q E s:=by
 have b:=r _ _ (c.update (·.setIfInBounds j v))<|SameBut.update ..
 unfold setItem
 try with_reducible refine wpAny_holding ?_
 first|refine wP ?_|skip
 have h:=c.isList
 refine υ<|wpAny_sequenceKey h.typeIs rfl ?_
 refine υ<|wpAny_callSpecial?_slot h.typeIs slot_list_setitem<|wpAny_call_entry slot_list_setitem h.typeIs entry_list_setitem ?_<|args_list_setitem _ _ _
 refine(?_:wpAny _ _ (Builtin.List.listSubscript? (.int k t)>>=_) _ _ s)
 refine HJ o (λh0 d e=>?_) λh0 g d e=>?_
 ·have q:=fitsIndex_of h0<|MX d e f;refine υ<|wpAny_listSubscript_int q ?_;subst d;refine υ<|υ<|wpAny_seqItemAt c rfl<|ψ ?_;refine(Array.getElem?_eq_getElem e)▸?_;refine υ<|wpAny_setSeqItemAt c rfl ?_
  first
   |exact wP (ψ ⟨.none,rfl,ψ b⟩)
   |exact ψ ⟨.none,rfl,ψ b⟩
 ·refine υ<|wpAny_listSubscript_int (fitsIndex_neg h0<|II g f) ?_;have m:=seqIndex_neg h0 g;rw[d]at m;clear f g d;clear o
  obtain⟨i,rfl⟩:∃i:Nat,k=Int.negSucc i:=by
   cases k with
   |ofNat n=>exact absurd (natCast_nonneg n)<|Int.not_le.mpr h0
   |negSucc n=>exact⟨n,rfl⟩
  refine υ<|υ ?_;refine υ<|wpAny_seqItems c rfl<|ψ<|ψ ?_;refine m▸?_;rw[Option.bind_some,Array.getElem?_eq_getElem e];refine υ<|wpAny_setSeqItemAt c rfl ?_
  first
   |exact wP (ψ ⟨.none,rfl,ψ b⟩)
   |exact ψ ⟨.none,rfl,ψ b⟩
end
section
variable {w:World}{s:Shared}
noncomputable def gC{α:Type}(xs:List α)(lo b:Option Int)(ys:List α):List α:=xs.take (lo.elim 0<|clipAt xs.length)++ys++xs.drop (max (lo.elim 0<|clipAt xs.length)<|b.elim xs.length<|clipAt xs.length)
theorem DK(xs:List α)(lo c:Option Int)(ys:List α):(gC xs lo c ys).length<=xs.length+ys.length:=by
 unfold gC
 rw[Δ,Δ,length_take,length_drop]
 generalize lo.elim 0 (clipAt xs.length)=a
 have h:a<=max a (c.elim xs.length<|clipAt xs.length):=Nat.le_max_left _ _
 revert h
 generalize max a (c.elim xs.length<|clipAt xs.length)=b
 intro h
 refine Nat.add_right_comm ..▸(Nat.add_le_add_right ?_ _)
 rcases Nat.le_total b xs.length with q|q
 ·exact Nat.le_trans (Nat.add_le_add_right (Nat.le_trans (Nat.min_le_left ..) h) _)<|Nat.le_of_eq<|Nat.add_sub_cancel' q
 ·rw[Nat.sub_eq_zero_of_le q];exact Nat.min_le_right ..
theorem Jw(a b:Nat):(max (a:Int) (b:Int)).toNat=max a b:=by
 rcases Nat.le_total a b with q|q
 ·rw[Int.max_eq_right<|ofNat_le.mpr q,Nat.max_eq_right q];rfl
 ·rw[Int.max_eq_left<|ofNat_le.mpr q,Nat.max_eq_left q];rfl
theorem wg(items c:Array Value)(a b:Nat):items.extract 0 (a:Int).toNat++c++items.extract (max (a:Int) (b:Int)).toNat=(items.toList.take a++c.toList++items.toList.drop (max a b)).toArray:=by rw[Jw,←Array.toList_inj];simp only[Array.toList_append,Array.toList_extract,toNat_natCast,extract_eq_take_drop,drop_zero,Nat.sub_zero];rw[take_of_length_le (l:=items.toList.drop<|max a b) (by rw[length_drop,Array.length_toList];exact Nat.le_refl _)]
theorem YN(y:Value)(ws:List Value):(List.toArray<|y::ws).eraseIdxIfInBounds 0=ws.toArray:=by rw[eraseIdxIfInBounds_toArray];rfl
theorem abK(n:Nat)(h:0<n):seqIndex? 0 n=some 0:=if_pos (by rw[Bool.and_eq_true];exact⟨rfl,decide_eq_true<|ofNat_lt.mpr h⟩)
theorem w2{l du b:Addr}{items afp:Array Value}{m:Nat}{o f:Value}{lo c:Option Int}{Q:Unit->Shared->Prop}(e:IsL s.heap l items n)(r:IsL s.heap b afp m)(z:l≠b)
 (v:s.heap.IsSliceOf du o f .none) (B:IsPart o lo) (C:IsPart f c) (c0:items.size+afp.size<=sizeLine)
 (t:∀κ y,IsL κ l (gC items.toList lo c afp.toList).toArray y->SameBut l s.heap κ->Q () {s with heap:=κ}):
 wpAny (model prog w) A (setItem (.ref l) (.ref du)<|.ref b) Q E s:=by
 refine Θ λD=>?_
 obtain⟨os,d,q,g⟩:=id v
 refine D ?_
 unfold setItem
 try with_reducible refine wpAny_holding ?_
 first|refine wP ?_|skip
 have p:=e.isList
 refine υ<|wpAny_sequenceKey p.typeIs rfl ?_
 refine υ<|wpAny_callSpecial?_slot p.typeIs slot_list_setitem<|wpAny_call_entry slot_list_setitem p.typeIs entry_list_setitem ?_<|args_list_setitem _ _ _
 refine(?_:wpAny _ _ (Builtin.List.listSubscript? (.ref du)>>=_) _ _ s)
 refine υ<|υ<|wpAny_specialOf (⟨os,d,q⟩) slice_no_index ?_
 refine ψ<|υ<|wpAny_typeOf (⟨os,d,q⟩) ?_
 refine υ<|υ<|wpAny_field d g (x:=.none) rfl<|υ<|wpAny_listPart .none ?_
 refine υ<|wpAny_field d g (x:=o) rfl<|υ<|wpAny_listPart B ?_
 refine υ<|wpAny_field d g (x:=f) rfl<|υ<|wpAny_listPart C<|ψ ?_
 have h:s.TypeIs (.ref b) "list":=⟨_,r,rfl⟩
 have i:Builtin.List.listSameRef (.ref l) (.ref b)=false:=by exact beq_eq_false_iff_ne.mpr z
 refine i▸(υ ?_)
 refine υ<|wpAny_typeOf h ?_
 refine υ<|υ ?_
 refine wpAny_load r<|ψ<|ψ ?_
 refine υ<|υ<|wpAny_seqItems e rfl<|ψ ?_
 refine υ<|wpAny_of_eq (sliceIndices_raw lo c none items.size<|of_decide_eq_true rfl) ?_
 rw[sliceBounds_plain]
 refine υ<|wpAny_rule ?_
 have j:Builtin.List.listTooLong (items.size+afp.size)=false:=by exact decide_eq_false<|fF c0
 refine j▸?_
 have u:(items.extract 0 ((lo.elim 0 (clipAt items.size):Nat):Int).toNat++afp++items.extract (max ((lo.elim 0 (clipAt items.size):Nat):Int) ((c.elim items.size (clipAt items.size):Nat):Int)).toNat).size<=sizeLine+1:=by rw[(wg _ _ _ _)];exact le_succ_of_le<|Nat.le_trans (DK _ _ _ _) (by rw[Array.length_toList,Array.length_toList];exact c0)
 refine υ ?_
 refine wpAny_updateSeq e rfl ?_ (hz:=Nat.le_trans (le_add_right _ _)<|Nat.le_trans c0 (by rw[sizeLine_eq];decide)) (_hz':=u)
 refine υ<|wpAny_letGo ?_
 have k:=e.update λxs:Array Value=>xs.extract 0 ((lo.elim 0 (clipAt items.size):Nat):Int).toNat++afp++xs.extract (max ((lo.elim 0 (clipAt items.size):Nat):Int) ((c.elim items.size (clipAt items.size):Nat):Int)).toNat
 rw[(wg _ _ _ _)]at k
 first
  |exact ψ ⟨.none,rfl,ψ (t _ _ k (SameBut.update ..))⟩
  |exact wP (ψ ⟨.none,rfl,ψ (t _ _ k (SameBut.update ..))⟩)
end
variable {de:Den}{wO:Pos}
section
variable {c:Fr s}
def iM(p:ζ):Option Nat:=p.v none (r:=some)
theorem l4(h:iM p=some k):p=.ref k:=kK (P:=λk=>p=.ref k) (by clear h;cases p<;>first|exact trivial|rfl) h
structure Kz(c:Fr s)(a:aD)(r:ax)(i:Nat)(xs:List ζ)(x:Addr)(vs:List Value)(n:Nat):Prop where
 get:r.h.get? x=some (bW vs n)
 rel:bV s.G r xs vs
 tag:r.T x=.bO i
 upd:∀κ tk cW ys ws,SameBut x r.h κ->κ.get? x=some (bW ws cW)->bV s.G r ys ws->aL c ⟨a.ρ,a.σ.set i<|.lst ys⟩ ⟨{r.s with heap:=κ,toks:=tk},r.T,r.a6⟩/\bt r ⟨{r.s with heap:=κ,toks:=tk},r.T,r.a6⟩
inductive LstIs(c:Fr s)(a:aD)(r:ax)(i:Nat)(xs:List ζ)(v:Value):Prop
 |mk (x vs n:_):v=.ref x->Kz c a r i xs x vs n->LstIs c a r i xs v
set_option tactic.hygienic true in
theorem aL.lst{a:aD}{r:ax}{p:ζ}{v:Value}{i:Nat}{xs:List ζ}(g:aL c a r)(b:Rel s.G r p v)(k:iM p=some i)(d:(a.σ[i]?).bind dv=some xs):LstIs c a r i xs v:=by
 replace b:=(l4 k)▸b
 refine ω d λm e d=>(Θ λh=>?_)
 cases m with
 |obj=>exact h<|cR d
 |lst ys=>
  obtain rfl:=Φ d
  cases b with
  |ref j=>
   rename_i x
   obtain⟨ro,z,f,q⟩:=g.base.root e j
   clear k d z
   cases q with
   |@lst C _ n vs t y w=>exact h ⟨x,vs,n,rfl,f▸y,w,f▸t,λκ tk B ys ws u A o=>g.Y3 e j u A o⟩
theorem Kz.up{a:aD}{r:ax}{i:Nat}{xs ys:List ζ}{x:Addr}{vs ws:List Value}{n:Nat}(L:Kz c a r i xs x vs n)(f:Array Value->Array Value)(e:f vs.toArray=ws.toArray)(g:bV s.G r ys ws){p:ζ}{w:Value}(b:Rel s.G r p w){Q:Value->Shared->Prop}{E:Value->Shared->Prop}
 (j:bM c r (Rel s.G) (.ok p ⟨a.ρ,a.σ.set i<|.lst ys⟩) Q E):Q w {r.s with heap:=r.h.update x<|mapSeq f}:=by
 have up:=IsL.update (L.get) f
 rw[e]at up
 obtain⟨h,d⟩:=L.upd _ r.s.toks _ _ _ (SameBut.update r.h x<|mapSeq f) up g
 exact j _ _ h d<|b.mono d.mono
def pj(d de:Den)(f:aD->Nat->List ζ->ζ->Option (ζ×aD)):Den:=λa=>(d a).bind λp a=>(Res.of<|((iM p).bind λi=>((a.σ[i]?).bind dv).bind λx=>some (i,a))).bind λi a=>(de a).bind λv a=>.of<|((a.σ[i]?).bind dv).bind λxs=>f a i xs v
theorem Res.qu{o:Option<|α×aD}{k:α->aD->Res β}{c:Fr s}{r:ax}{R:ax->β->hb->Prop}{Q:hb->Shared->Prop}(p:bM c r R ((Res.of o).bind k) Q E)(h:∀x,o=some x->bM c r R (k x.1 x.2) Q E->P):P:=by
 cases o with
 |none=>exact p.elim
 |some x=>exact h x rfl p
theorem aw.Dw{o:Expr}{x:Str}{f:aD->Nat->List ζ->ζ->Option (ζ×aD)}{b:String}{N:Addr->Value->Shared->(Value->Shared->Prop)->Prop}(h:aw s o d)(J:aw s e de)(C:mh o=true)(m:fw [e]=true)(F:(afa.endLine==pos.line)=true)
 (M:∀(A:Around) (I:Sem Bool) (s':Shared) (l:Addr) (vs:List Value) (n:Nat) (Q:Value×List Value->Shared->Prop) (E:Value->Shared->Prop),s'.heap.get? l=some (bW vs n)->Q (.builtin b,[.ref l]) s'->wpAny s.G.M A (getMethod (.ref l) x I) Q E s')
 (B:∀(A:Around) (l:Addr) (t:Sem Value) (s':Shared) (Q:Value->Shared->Prop) (E:Value->Shared->Prop),wpAny s.G.M A t (λw O=>N l w O Q) E s'->wpAny s.G.M A (callWith pos (.builtin b) [.ref l] [(false,t)] []) Q E s')
 (K:∀(c:Fr s) (a:aD) (r:ax) (i:Nat) (xs:List ζ) (p:ζ) (w:Value) (l:Addr) (vs:List Value) (n:Nat) (y:ζ×aD) (Q:Value->Shared->Prop) (E:Value->Shared->Prop),aL c a r->Kz c a r i xs l vs n->Rel s.G r p w->f a i xs p=some y->bM c r (Rel s.G) (.ok y.1 y.2) Q E->N l w r.s Q):
 aw s (.Call (.Attribute o x afa) [e] [] pos) (pj d de f):=λc a r Q E g p=>
 MethodCall_ (h.then g p λv aX X a1 q S bj p=>Res.qu p λx j p=>ω j λi z j=>ω j λzs P j=>by refine Θ λR=>?_;obtain rfl:=Φ j;obtain⟨l,vs,n,rfl,L⟩:=q.lst bj z P;refine R<|M _ _ _ _ _ _ _ _ L.get ?_;rw[nC m];refine B _ _ _ _ _ _<|J.then q p λw T Y a2 u H bX p=>p.of λy k p=>ω k λxs D k=>?_;refine Θ λG=>?_;obtain⟨U,Z,V,e,L⟩:=u.lst (bj.mono H.mono) z D;obtain rfl:=Value.ref.inj e;refine G ?_;exact K _ _ _ _ _ _ _ _ _ _ _ _ _ u L bX k p) (tl C _ m F _)
noncomputable def eN(a:aD)(i:Nat)(xs:List ζ)(v:ζ):Option<|ζ×aD:=if xs.length<=sizeLine then some (.none,⟨a.ρ,a.σ.set i<|.lst<|xs++[v]⟩)else none
def rR(a:aD)(i:Nat)(xs:List ζ)(v:ζ):Option<|ζ×aD:=(view a v).bind λys=>if xs.length+ys.length<=sizeLine then some (.none,⟨a.ρ,a.σ.set i<|.lst<|xs++ys⟩)else none
def C3(a:aD)(i:Nat)(xs:List ζ)(v:ζ):Option<|ζ×aD:=(gd v).bind λk=>if k=0 then if xs.length<=sizeLine then xs.head?.bind λx=>some (x,⟨a.ρ,a.σ.set i<|.lst xs.tail⟩)else none else none
theorem aw.append{o:Expr}(h:aw s o d)(u:aw s e de)(j:mh o=true)(m:fw [e]=true)(t:(afa.endLine==pos.line)=true):aw s (.Call (.Attribute o "append" afa) [e] [] pos)<|pj d de eN:=
 .Dw h u j m t (λx x x x x x x x e q=>getMethod_list_append e rfl rfl q) (λx x x x x x=>P.append_list) λc a r i xs p w l vs n y Q E g L b f v=>bY f λk f=>by obtain rfl:=Φ f;exact⟨vs.toArray,n,by rw[List.size_toArray,←L.rel.len];exact k,L.get,L.up (·.push w) (push_toArray vs w) (L.rel.append<|.cons b .nil) .none v⟩
theorem aw.extend{o:Expr}(h:aw s o d)(C:aw s e de)(t:mh o=true)(x:fw [e]=true)(B:(afa.endLine==pos.line)=true):aw s (.Call (.Attribute o "extend" afa) [e] [] pos)<|pj d de rR:=
 .Dw h C t x B (λX X X X X X X X e q=>getMethod_list_of _root_.PySem.F.slot_list_extend _root_.PySem.F.type_list_extend (jW e) ⟨_,e,rfl⟩ q) (λX X X X X X=>P.extend_list) λc a r i xs p w l vs n y Q E g L b f D=>ω f λys A f=>bY f λv f=>by
  refine Θ λF=>?_;obtain rfl:=Φ f;obtain⟨u,ws,m,rfl,z,k⟩:=g.view b A;have j:vs.toArray.size+ws.toArray.size<=sizeLine:=by rw[List.size_toArray,List.size_toArray,←L.rel.len,←k.len];exact v
  exact F ⟨u,vs.toArray,ws.toArray,n,m,Nat.le_trans (le_add_right _ _) j,le_succ_of_le j,λq=>fF j<|of_decide_eq_true (bf q).2,rfl,L.get,z,L.up (·++ws.toArray) (append_toArray vs ws) (L.rel.append k) .none D⟩
theorem aw.pop{o:Expr}(h:aw s o d)(C:aw s e de)(m:mh o=true)(z:fw [e]=true)(B:(afa.endLine==pos.line)=true):aw s (.Call (.Attribute o "pop" afa) [e] [] pos)<|pj d de C3:=
 .Dw h C m z B (λX X X X X X X X e q=>getMethod_list_of _root_.PySem.F.slot_list_pop _root_.PySem.F.type_list_pop (jW e) ⟨_,e,rfl⟩ q) (λX X X X X X=>P.pop_at_list) λc a r i xs p w l vs n y Q E g L b f D=>ω f λed A f=>bY f λv f=>bY f λt f=>ω f λy k f=>by
  refine Θ λj=>?_
  obtain rfl:=Φ f
  subst v
  obtain⟨u,rfl⟩:=b.jl A
  cases xs with
  |nil=>exact j<|cR k
  |cons x xs=>
   obtain rfl:=Φ k
   cases vs with
   |nil=>exact j<|Of L.rel.len
   |cons y ws=>refine j ?_;exact⟨(y::ws).toArray,n,0,u,0,y,by rw[List.size_toArray,←L.rel.len];exact t,rfl,L.get,by decide,abK _<|succ_pos _,rfl,L.up (λxs=>xs.eraseIdxIfInBounds 0) (YN y ws) L.rel.tail L.rel.head D⟩
def CP(d iC de:Den):bL:=λa=>(de a).bind λv a=>(d a).bind λp a=>(iC a).bind λq a=>.of<|(iM p).bind λi=>((a.σ[i]?).bind dv).bind λxs=>(gd q).bind λk=>if xs.length<=sizeLine then(gT xs.length k).bind λj=>some (.next,⟨a.ρ,a.σ.set i<|.lst<|xs.set j v⟩)else none
theorem wm{o i:Expr}(l:Nat)(env:Env):swapsWith e (some<|.Subscript o i wO) l env=pure false:=by cases e<;>exact Eq.refl<|pure false
theorem a4.item{o i:Expr}{iC:Den}(h:aw s o d)(q:aw s i iC)(K:aw s e de):a4 s (.Assign [.Subscript o i wO] e pos)<|CP d iC de:=λc a r Q E g p=>
 wpAny_Assign_Subscript (K.then g p λv aX U a1 H S bj p=>h.then H p λu T X a2 I C bX p=>q.then I p λw F Y V J m N p=>p.of λy b p=>ω b λj O b=>ω b λxs P b=>ω b λk z b=>bY b λx b=>ω b λt A b=>by obtain⟨u,rfl⟩:=N.jl z;refine Θ λR=>?_;obtain rfl:=Φ b;obtain⟨l,vs,n,rfl,L⟩:=J.lst (bX.mono m.mono) O P;refine R ?_;refine D3 L.get (by rw[List.size_toArray,←L.rel.len];exact A) (by rw[List.size_toArray,←L.rel.len];exact x) λκ B f D=>?_;rw[setIfInBounds_toArray]at f;obtain⟨G,M⟩:=L.upd κ F.s.toks B _ (vs.set t v) D f<|L.rel.set ((bj.mono C.mono).mono m.mono) t;exact p _ _ G M .next) (wm _ _)
def pk(d dl b de:Den):bL:=λa=>(de a).bind λv a=>(d a).bind λp a=>(dl a).bind λl a=>(b a).bind λu a=>.of<|(iM p).bind λi=>((a.σ[i]?).bind dv).bind λxs=>(jM v).bind λys=>(afr l).bind λlo=>(afr u).bind λc=>if xs.length+ys.length<=sizeLine then some (.next,⟨a.ρ,a.σ.set i<|.lst<|gC xs lo c ys⟩)else none
theorem All.gC{R:α->β->Prop}{xs ys:List α}{vs ws:List β}(h:All R xs vs)(κ:All R ys ws)(lo b:Option Int):All R (Internal.gC xs lo b ys)<|Internal.gC vs lo b ws:=by unfold Internal.gC;exact h.len▸(((h.take _).append κ).append<|h.drop _)
theorem a4.slice{o:Expr}{lo F:Option Expr}{B:Den}(h:aw s o d)(ο:k6 s lo dl)(V:k6 s F B)(he:aw s e de):a4 s (.Assign [.Subscript o (.Slice lo F none sp) wO] e pos)<|pk d dl B de:=λc a r Q E g p=>
 wpAny_Assign_Subscript (he.then g p λv aX d1 a1 X bD bj p=>h.then X p λu c7 hQ a2 Y T bX p=>wpAny_Slice (ο.then Y p λJ e8 tC h9 Z G mw p=>V.then Z p λA f n5 mP I k K p=>ψ (p.of λy b p=>ω b λj η b=>ω b λxs μ b=>ω b λys N b=>ω b λl O b=>ω b λt R b=>bY b λM b=>by refine Θ λφ=>?_;obtain rfl:=Φ b;obtain⟨w,z⟩:=I.push (o:={cls:=.type "slice",data:=.fields #[J,A,.none]}) (tk:=f.s.toks);have C:=(((bj.mono T.mono).mono G.mono).mono k.mono).mono z.mono;obtain⟨x,vs,n,rfl,L⟩:=w.lst (((bX.mono G.mono).mono k.mono).mono z.mono) η μ;rw[hg N]at C;obtain⟨y,ws,m,rfl,D,H⟩:=C.jY;refine φ ?_;refine w2 (s:={f.s with heap:=f.h.push {cls:=.type "slice",data:=.fields #[J,A,.none]}}) L.get (w.base.fy _ _ D) (λq=>Tag.noConfusion<|L.tag.symm.trans<|q▸D) (IsSliceOf.new ..) (qw (mw.mono k.mono) O) (qw K R) (by rw[List.size_toArray,List.size_toArray,←L.rel.len,←H.len];exact M) λκ S P U=>?_;obtain⟨wN,i⟩:=L.upd κ f.s.toks S _ (gC vs l t ws) U P<|L.rel.gC H l t;exact p _ _ wN (I.fi w z i) .next))) (wm _ _)
end
variable {bm bs:List Value}{os:OsState}
section
open Builtin Builtin.ObjectAttr
inductive rE(h:Heap)(C:Addr)(bm:List Value)(mk:String):Prop
 |mk (nm q N bs sn sub col gX ed dH dD d9 jX:_):h.get? C=some (excClassObj nm q C N bs bm true sn sub false col gX ed dH dD d9 jX mk)->rE h C bm mk
inductive e3(h:Heap)(C:Addr)(bm:List Value):Prop
 |mk {mo:String}:rE h C bm mo->e3 h C bm
theorem rE.at_{h:Heap}{C:Addr}{b:String}(x:rE h C bm b)(k:∀o,h.get? C=some o->κ.get? C=some o):rE κ C bm b:=by obtain⟨nm,q,N,bs,sn,sub,col,gX,ed,dH,dD,d9,jX,c⟩:=x;exact⟨nm,q,N,bs,sn,sub,col,gX,ed,dH,dD,d9,jX,k _ c⟩
theorem e3.at_{h:Heap}{C:Addr}(x:e3 h C bm)(k:∀o,h.get? C=some o->κ.get? C=some o):e3 κ C bm:=let⟨y⟩:=x;⟨y.at_ k⟩
def fj(h:Heap)(C:Addr)(name:Str)(y:Option Value):Prop:=∀(M:Model) (A:Around) (E:Value->Shared->Prop) (g:Array GenState) (d:Drawn) (t:Nat) (os:OsState) (Q:Option Value->Shared->Prop),Q y ⟨h,g,d,t,os⟩->wpAny M A (typeLookup (.ref C) name) Q E ⟨h,g,d,t,os⟩
section
variable {w:World}{h:Heap}{g:Array GenState}{d:Drawn}{t:Nat}
variable {nm q:Str}{C N x:Addr}{sn:List Str}{sub:List Value}{EA:Bool}{col:Option Bool}{gX:Option Addr}{ed dH dD d9 jX:Option Value}{agi:String}{Dy pL:Str->Option Value}{name:Str}{v:Value}
theorem fj.use{M:Model}{y:Option Value}{Q:Option Value->Shared->Prop}(c:fj h C name y)(b:Q y ⟨h,g,d,t,os⟩):wpAny M A (typeLookup (.ref C) name) Q E ⟨h,g,d,t,os⟩:=c _ _ _ _ _ _ _ _ b
set_option tactic.hygienic true in
theorem wR{tk:Tok}{Q:Fin->Shared->Prop}
 (b:e3 h C bm) (s:fj h C name none) (I:h.Inst x C pL) (e:pL name=some v) (k:Q (.done<|.ret v) ⟨h,g,d,t,os⟩):
 wpAny (model prog w) A (Builtin.«proto.getattr_hooked» ⟨[.ref x,.str name tk],[]⟩) Q E ⟨h,g,d,t,os⟩:=by
 refine Θ λu=>?_
 obtain⟨⟨nm,q,N,bs,sn,sub,col,gX,ed,dH,dD,d9,jX,b⟩⟩:=b
 obtain⟨o,i,f,r,m⟩:=I
 rcases m with⟨_,j⟩|⟨y,n,z,l⟩
 ·rw[j name]at e;cases e
 refine u ?_
 repeat (first|(with_reducible refine wpAny_loadPart_at i ?_;(try with_reducible refine cY ?_);rw[f])|(with_reducible refine fj.use s ?_)|(with_reducible refine υ ?_)|(with_reducible refine cY ?_)|wp_step)
 split
 ·rename_i c p;exact absurd p<|r c
 repeat (first|(with_reducible refine wpAny_loadPart_at i ?_;(try with_reducible refine cY ?_);rw[f])|with_reducible refine wpAny_loadPart_at b ?_|(with_reducible refine υ ?_)|(with_reducible refine cY ?_)|wp_step)
 refine n▸?_
 repeat (first|(with_reducible refine wpAny_nsGet l.ns ?_;(try with_reducible refine cY ?_);rw[e])|(with_reducible refine υ ?_)|(with_reducible refine cY ?_)|wp_step)
 exact k
theorem Nr{b:Bool}
 (f:e3 h C bm) (k:fj h C "__getattribute__"<|some<|.builtin "object.__getattribute__") (m:fj h C name none)
 (I:h.Inst x C pL) (i:pL name=some v) (j:handedOut v=pure v) (e:Q v ⟨h,g,d,t+1,os⟩):
 wpAny (model prog w) A (getAttr (.ref x) name b) Q E ⟨h,g,d,t,os⟩:=by
 obtain⟨o,l,c,_⟩:=id I
 repeat (first|(with_reducible refine wpAny_loadPart_at l ?_;(try with_reducible refine cY ?_);rw[c])|(with_reducible refine fj.use k ?_)|(with_reducible refine υ ?_)|(with_reducible refine cY ?_)|wp_step)
 refine wpAny_onRaise<|wpAny_runValue<|codeAny_builtin F.plainObj_entry_getattr_hooked<|wR f m I i ?_
 refine(?_:wpAny _ _ (handedOut v) _ _ _)
 exact j▸(ψ e)
set_option maxHeartbeats 1000000 in
theorem F4{n:Sem Bool}{f:Addr}{c:Obj}{Q:Value×List Value->Shared->Prop}
 (z:e3 h C bm) (l:fj h C "__getattribute__"<|some<|.builtin "object.__getattribute__") (i:fj h C "__getattr__" none)
 (q:fj h C name<|some<|.ref f) (u:h.get? f=some c) (s:c.cls=.type "function") (I:h.Inst x C pL) (hsh:pL name=none) (b:Q (.ref f,[.ref x]) ⟨h,g,d,t,os⟩):
 wpAny (model prog w) A (getMethod (.ref x) name n) Q E ⟨h,g,d,t,os⟩:=by
 refine Θ λy=>?_
 obtain⟨o,v,j,D,p⟩:=I
 refine y ?_
 repeat (first|(with_reducible refine wpAny_loadPart_at v ?_;(try with_reducible refine cY ?_);rw[j])|(with_reducible refine fj.use l ?_)|(with_reducible refine fj.use i ?_)|(with_reducible refine fj.use q ?_)|(with_reducible refine wpAny_typeOf ⟨_,u,s⟩ ?_)|simp only[k,Bool.false_eq_true,if_false]|(with_reducible refine υ ?_)|(with_reducible refine cY ?_)|wp_step)
 rcases p with⟨e,_⟩|⟨B,r,_,m⟩
 ·rw[e];repeat (first|(with_reducible refine υ ?_)|(with_reducible refine cY ?_)|wp_step)
  exact b
 ·rw[r];repeat (first|(with_reducible refine wpAny_nsGet m.ns ?_;(try with_reducible refine cY ?_);rw[hsh])|(with_reducible refine υ ?_)|(with_reducible refine cY ?_)|wp_step)
  exact b
theorem Ap{M:Model}{e:Value}{Q:Unit->Shared->Prop}(j:(Value.ref C::bm).contains (.type "object")=true)
 (c:e3 h C bm) (k:h.get? x=some o) (f:o.cls=.ref C) (i:Q () ⟨h,g,d,t,os⟩):
 wpAny M A (checkBuiltinCall "object.__setattr__" ⟨[.ref x,e,v],[]⟩) Q E ⟨h,g,d,t,os⟩:=by
 refine Θ λl=>?_
 obtain⟨⟨nm,q,N,bs,sn,sub,col,gX,ed,dH,dD,d9,jX,c⟩⟩:=c
 have b:=F.store_object
 have m:=b.args (.ref x) e v
 refine l ?_
 simp only[checkBuiltinCall,b.kind,b.split]
 refine υ ?_
 ·unfold isInstance;repeat (first|(with_reducible refine wpAny_loadPart_at k ?_;(try with_reducible refine cY ?_);rw[f])|(with_reducible refine wpAny_isSubtype_exc c ?_;(try with_reducible refine cY ?_);rw[j])|(with_reducible refine υ ?_)|(with_reducible refine cY ?_)|wp_step)
  exact i
inductive DictOf(h κ:Heap)(x:Addr)(eF:Obj):Prop
 |mk (uQ:Obj) (lW:Addr):κ.get? x=some uQ->uQ={eF with dict:=some lW}->(eF.dict=none->lW=h.objs.size)->(∀cz,eF.dict=some cz->lW=cz)->DictOf h κ x eF
theorem XY{d:Option Addr}(h:o.isFreed=false):({cls:=o.cls,dict:=d,data:=o.data,slots:=o.slots}:Obj).isFreed=false:=Eq.trans (by kernel_rfl) h
set_option tactic.hygienic true in
theorem uH{tk:Tok}{Q:Fin->Shared->Prop}(s9:refuseLoop (.ref x) "__setattr__" bm=pure ())
 (K:e3 h C bm) (ο:fj h C name none) (LC:x≠C) (I:h.Inst x C pL)
 (U:∀κ nr,κ.Inst x C (λy=>if y=name then some v else pL y)->(∀b o,b≠x->(∀i k,h.get? x=some i->i.dict=some k->b≠k)->h.get? b=some o->κ.get? b=some o)->(∀i,h.get? x=some i->DictOf h κ x i)->h.objs.size<=κ.objs.size->Q (.done<|.ret .none) ⟨κ,g,d,nr,os⟩) {ns:List Str} (hw:Within pL ns) (c0:ns.length<=100):
 wpAny (model prog w) A (Builtin.«object.__setattr__» ⟨[.ref x,.str name tk,v],[]⟩) Q E ⟨h,g,d,t,os⟩:=by
 refine Θ λφ=>?_
 obtain⟨⟨nm,q,N,bs,sn,sub,col,gX,ed,dH,dD,d9,jX,K⟩⟩:=K
 obtain⟨o,j,B,O,hd⟩:=I
 refine φ ?_
 repeat (first|rw[refuse_eq]|(rw[refuseLoop_ref,s9])|(with_reducible refine wpAny_loadPart_at j ?_;(try with_reducible refine cY ?_);rw[B])|with_reducible refine wpAny_mroOf_exc K ?_|(with_reducible refine fj.use ο ?_)|(with_reducible refine υ ?_)|(with_reducible refine cY ?_)|wp_step)
 rcases hd with⟨R,X⟩|⟨k,n,L,gA⟩
 ·rw[R,if_neg<|by simp[typeHasDict]];split
  ·rename_i M;cases M
  split
  ·rename_i c M;exact absurd M<|O c
  ·have T:(h.push {cls:=.type "dict",data:=.dict #[]}).get? x=some o:=get?_push_of_some _ j;have r:x≠h.objs.size:=ne_of_lt<|lt_size j;refine υ<|wpAny_alloc' ?_;refine υ<|wpAny_update' T ?_;refine ψ ?_;have Y:((h.push {cls:=.type "dict",data:=.dict #[]}).update x λo=>{cls:=o.cls,dict:=some h.objs.size,data:=o.data,slots:=o.slots}).get? h.objs.size=some {cls:=.type "dict",data:=.dict #[]}:=(get?_update_ne _ _ _ _ r.symm).trans<|get?_push_at rfl rfl;have vL:((h.push {cls:=.type "dict",data:=.dict #[]}).update x λo=>{cls:=o.cls,dict:=some h.objs.size,data:=o.data,slots:=o.slots}).Ns h.objs.size λW=>none:=⟨_,#[],_,Y,rfl,λe he=>absurd he (by simp),λW=>rfl⟩;refine(?_:wpAny _ _ (storeInDict h.objs.size (.str name tk) name v) _ _ _);refine wP<|υ<|wpAny_nsSet1 (Ns1.of_empty vL) λκ m l=>?_;obtain⟨H,G,F,s,z,u⟩:=m.count<|Within.cons name v Within.nil;refine υ<|wpAny_lookBehind s (by rw[z];exact pastItsLine_dict<|Nat.le_trans u (by rw[length_cons,length_nil,sizeLine_eq];exact(eB 0x100e9118100000078911808 [] ι))) ?_;refine ψ ?_;have S:κ.get? x=some {cls:=o.cls,dict:=some h.objs.size,data:=o.data,slots:=o.slots}:=?_
   refine U κ _ ⟨{cls:=o.cls,dict:=some h.objs.size,data:=o.data,slots:=o.slots},S,B,O,.inr ⟨h.objs.size,rfl,r.symm,?_⟩⟩ (λb U9 D W p=>?_)
    (λi f=>by obtain rfl:o=i:=Φ<|j.symm.trans f;exact⟨_,h.objs.size,S,rfl,λW=>rfl,λk e=>cR<|R.symm.trans e⟩) ?_
   ·obtain⟨bu,es,V,P,ab,bQ,J,fk⟩:=m;exact⟨bu,es,V,P,ab,bQ,J,λy=>by rw[fk y];by_cases ar:y=name<;>simp[ar,X]⟩
   ·exact(l.2 b<|ne_of_lt<|lt_size p).trans<|(get?_update_ne _ _ _ _ D).trans<|get?_push_of_some _ p
   ·refine Nat.le_of_lt ?_;obtain⟨bu,es,V,P,_⟩:=m;exact lt_size P
   ·refine(l.2 x r).trans<|get?_update_self _ T ?_;exact XY (get?_some_iff.mp j).2
 ·rw[n];refine ψ ?_;show wpAny _ _ (storeInDict k (.str name tk) name v) _ _ _;refine wP<|υ<|wpAny_nsSet1 gA λκ m l=>?_;obtain⟨H,G,F,s,z,u⟩:=m.count<|Within.cons name v hw;refine υ<|wpAny_lookBehind s (by rw[z];exact pastItsLine_dict<|Nat.le_trans u (by rw[length_cons,sizeLine_eq];exact(aV 0x100e91181000000789118000e64280 [_] ι c0))) ?_;refine ψ ?_;refine U κ _ ⟨o,(l.2 x L.symm).trans j,B,O,.inr ⟨k,n,L,m⟩⟩ (λb U9 W Z p=>?_) (λi f=>⟨i,k,(l.2 x L.symm).trans f,?_,λe=>?_,λdw e=>?_⟩) ?_
  ·exact(l.2 b<|Z o k j n).trans p
  ·obtain rfl:o=i:=Φ<|j.symm.trans f;exact n▸rfl
  ·obtain rfl:o=i:=Φ<|j.symm.trans f;exact cR<|e.symm.trans n
  ·obtain rfl:o=i:=Φ<|j.symm.trans f;exact Φ<|n.symm.trans e
  ·exact Nat.le_of_eq l.1.symm
theorem Jo{Q:Unit->Shared->Prop}(u:(Value.ref C::bm).contains (.type "object")=true)(B:refuseLoop (.ref x) "__setattr__" bm=pure ())
 (k:e3 h C bm) (e:fj h C "__setattr__"<|some<|.builtin "object.__setattr__") (D:fj h C name none) (p:x≠C) (I:h.Inst x C pL)
 (r:∀κ i,κ.Inst x C (λy=>if y=name then some v else pL y)->(∀b o,b≠x->(∀c l,h.get? x=some c->c.dict=some l->b≠l)->h.get? b=some o->κ.get? b=some o)->(∀c,h.get? x=some c->DictOf h κ x c)->h.objs.size<=κ.objs.size->Q () ⟨κ,g,d,i,os⟩) {ns:List Str} (z:Within pL ns) (c0:ns.length<=100):
 wpAny (model prog w) A (setAttr (.ref x) name v) Q E ⟨h,g,d,t,os⟩:=by
 refine Θ λG=>?_
 obtain⟨o,m,j,_⟩:=id I
 have H:=F.store_object.slot.bind<|.ref x
 refine G ?_
 repeat (any_goals (first|assumption|(with_reducible refine wpAny_loadPart_at m ?_;(try with_reducible refine cY ?_);rw[j])|(with_reducible refine fj.use e ?_)|(with_reducible refine υ ?_)|(with_reducible refine cY ?_)|wp_step))
 refine codeAny_call_builtin F.store_object.slot.plain F.store_object.entry<|Ap u k m j<|uH B k D p I (λκ i f s n q=>?_) z c0
 repeat (any_goals (first|assumption|(with_reducible refine υ ?_)|(with_reducible refine cY ?_)|wp_step))
 exact r κ i f s n q
end
end
variable {c:Nat}
section
open Builtin Builtin.ObjectAttr
def afi(x:Str):Bool:=(match fastLookup "object" x with|some none=>true|_=>false)&&!dF.contains x&&!(["shown","kind","same_as"]:List Str).contains x
theorem tc{x:Str}(h:afi x=true):typeLookup (.type "object") x=pure none/\dF.contains x=false/\(["shown","kind","same_as"]:List Str).contains x=false:=by
 refine Θ λf=>?_
 unfold afi at h
 rw[Bool.and_eq_true,Bool.and_eq_true]at h
 obtain⟨⟨b,d⟩,c⟩:=h
 refine f ⟨?_,Bool.not_eq_true' _▸d,Bool.not_eq_true' _▸c⟩
 rw[typeLookup_type]
 refine builtinLookup_eq_fast▸?_
 cases e:fastLookup "object" x with
 |none=>rw[e]at b;exact absurd b Bool.false_ne_true
 |some y=>
  replace b:=e▸b
  cases y with
  |none=>rfl
  |some z=>exact absurd b Bool.false_ne_true
def nH(c:Nat):fA:=match cQ bG (ae2 c)with
 |some (.cls k)=>k
 |_=>⟨"",none,[],default,none,[],default⟩
def g7(c:Nat):List Str:=(nH c).ds.map (·.name)
inductive Ce(G:aB)(c:Nat):Prop
 |mk (bm:_):e3 G.s.heap (G.cls c) bm->(Value.ref (G.cls c)::bm).contains (.type "object")=true->(∀x,refuseLoop (.ref x) "__setattr__" bm=pure ())->Ce G c
structure l1(G:aB)(c:Nat):Prop where
 obj:Ce G c
 look:∀h:Heap,(∀a o,G.s.heap.get? a=some o->h.get? a=some o)->∀x y,typeLookup (.type "object") x=pure y->dF.contains x=false->(["shown","kind","same_as"]:List Str).contains x=false->(g7 c).contains x=false->fj h (G.cls c) x y
 plain:∀x:Str,(["__getattribute__","__getattr__","__setattr__"]:List Str).contains x=true->(g7 c).contains x=false
structure xv(G:aB)(c:Nat)(x:Str)(f:Addr):Prop where
 look:∀h:Heap,(∀a o,G.s.heap.get? a=some o->h.get? a=some o)->fj h (G.cls c) x (some<|.ref f)
theorem px:∀{ns:List Str} {vs:List<|Option Value} {i:Nat} {x:Str} {v:Option Value},ns.Nodup->ns[i]?=some x->vs[i]?=some v->eO ns vs x=v
 |[],_,_,_,_,_,h,_=>nomatch h
 |_::_,[],_,_,_,_,_,h=>nomatch h
 |n::ns,w::vs,0,x,v,_,b,c=>by cases b;cases c;unfold eO;rw[zip_cons_cons,lookup_cons,beq_self_eq_true];rfl
 |n::ns,w::vs,i+1,x,v,f,b,c=>by have g:(x==n)=false:=beq_eq_false_iff_ne.mpr λe=>(nodup_cons.mp f).1<|List.mem_of_getElem?<|e▸b;have d:=px (nodup_cons.mp f).2 b c;unfold eO at d⊢;simp only[zip_cons_cons,lookup_cons,g];exact d
theorem sj{α:Type}:∀{ns:List Str} {vs:List α} {x:Str},x∉ns->(ns.zip vs).lookup x=none
 |[],_,_,_=>rfl
 |_::_,[],_,_=>rfl
 |n::ns,v::vs,x,h=>by rw[zip_cons_cons,lookup_cons,beq_eq_false_iff_ne.mpr λe=>h (by rw[e];exact .head _)];exact sj λq=>h<|.tail _ q
theorem Fg:∀{ns:List Str} {vs:List<|Option Value} {k:Nat} {x:Str} {v:Option Value},ns.Nodup->ns[k]?=some x->k<vs.length->∀y,eO ns (vs.set k v) y=if y=x then v else eO ns vs y:=by
 intro ns
 induction ns with
 |nil=>intro vs k x v _ h;exact Oe h.symm
 |cons n ns c=>
  intro vs k x v e d f y
  cases vs with
  |nil=>exact absurd f<|not_lt_zero _
  |cons w vs=>
  cases k with
  |zero=>
   cases d;unfold eO;rw[set_cons_zero,zip_cons_cons,zip_cons_cons,lookup_cons,lookup_cons];by_cases b:y=n
   ·rw[b,beq_self_eq_true,if_pos rfl];rfl
   ·rw[beq_eq_false_iff_ne.mpr b,if_neg b]
  |succ k=>
   have c:=c (v:=v) (nodup_cons.mp e).2 d (lt_of_succ_lt_succ f) y;unfold eO at c⊢;refine set_cons_succ▸(zip_cons_cons▸?_);dsimp only[zip_cons_cons,lookup_cons,lookup_cons];by_cases b:y=n
   ·rw[b,beq_self_eq_true,if_neg λq:n=x=>(nodup_cons.mp e).1<|List.mem_of_getElem? (i:=k)<|(q)▸d]
   ·rw[beq_eq_false_iff_ne.mpr b];exact c
theorem yf(ns:List Str)(vs:List<|Option Value):PySem.Within (eO ns vs) ns:=λy h=>Classical.byContradiction λb=>h (by unfold eO;rw[sj b];rfl)
theorem Fh(ns:List Str)(vs:List Value):IK ns vs=eO ns (vs.map some):=by
 funext x
 unfold IK eO
 induction ns generalizing vs with
 |nil=>rfl
 |cons n ns b=>
  cases vs with
  |nil=>rfl
  |cons v vs=>
   rw[map_cons,zip_cons_cons,zip_cons_cons,lookup_cons,lookup_cons]
   cases x==n with
   |true=>rfl
   |false=>exact b vs
def C4(c:Nat):Bool:=decide (fieldsOf c).Nodup&&decide ((fieldsOf c).length<=100)&&(fieldsOf c).all λx=>afi x&&!(g7 c).contains x
theorem mD(c:Nat):C4 c=true:=by
 match c with
 |0|1|2|3|4|5|7|8|9|10|11|12=>decide+kernel
 |6=>rfl
 |_+13=>rfl
theorem lq(c:Nat):(fieldsOf c).Nodup:=of_decide_eq_true (bf (bf<|mD c).1).1
theorem yd(c:Nat):(fieldsOf c).length<=100:=of_decide_eq_true (bf (bf<|mD c).1).2
theorem Ak{x:Str}(h:(fieldsOf c)[k]?=some x):afi x=true/\(g7 c).contains x=false:=by have q:=bf<|List.all_eq_true.mp (bf<|mD c).2 x<|List.mem_of_getElem? h;exact⟨q.1,by rw[←Bool.not_eq_true'];exact q.2⟩
theorem l1.own{x:Str}(C:l1 G c)(b:(fieldsOf c)[k]?=some x){h:Heap}(e:∀a o,G.s.heap.get? a=some o->h.get? a=some o):fj h (G.cls c) x none:=by refine Θ λl=>?_;obtain⟨i,j⟩:=Ak b;obtain⟨d,f,g⟩:=tc i;exact l<|C.look h e x _ d f g j
theorem l1.ga(C:l1 G c){h:Heap}(b:∀a o,G.s.heap.get? a=some o->h.get? a=some o):fj h (G.cls c) "__getattribute__"<|some<|.builtin "object.__getattribute__":=C.look h b _ _ F.lk_object_ga (by rfl) (by rfl) (C.plain _<|by rfl)
section
variable {c:Fr s}
noncomputable def fl:List Str->Str->Option Nat
 |[],_=>none
 |y::ys,x=>if y==x then some 0 else(fl ys x).map (·+1)
theorem fE:∀{l:List Str} {x:Str} {k:Nat},fl l x=some k->l[k]?=some x
 |[],_,_,h=>nomatch h
 |y::ys,x,k,h=>by
  unfold fl at h;by_cases q:(y==x)=true
  ·rw[if_pos q]at h;cases h;exact congrArg some<|eq_of_beq q
  ·rw[if_neg q]at h;obtain⟨j,b,rfl⟩:=Option.map_eq_some_iff.mp h;exact fE (l:=ys) b
noncomputable def KP:Ξ->Option (Nat×List (Option ζ))
 |.obj c b=>some (c,b)
 |_=>none
def O7(p:ζ):Option<|Nat×List (Option ζ):=p.v none (c:=λc b=>some (c,b.map some))
def n3(a:aD)(p:ζ):Option<|Nat×List (Option ζ):=(iM p).bind λi=>(a.σ[i]?).bind KP
def lp(a:aD)(p:ζ):Option<|Nat×List (Option ζ):=(O7 p).or<|n3 a p
structure OC(c:Fr s)(r:ax)(k:Nat)(br:List<|Option ζ)(x:Addr)(vs:List<|Option Value):Prop where
 inst:r.h.Inst x (s.G.cls k)<|eO (fieldsOf k) vs
 rel:All (hy s.G r) br vs
 len:br.length=(fieldsOf k).length
inductive KG(G:aB)(a:aD)(r:ax)(p:ζ)(v:Value)(y:Nat×List (Option ζ)):Prop
 |mk (i x d:_):p=.ref i->a.σ[i]?=some (.obj y.1 y.2)->v=.ref x->r.a6[i]?=some (.obj x d)->cT G r i (.obj x d) (.obj y.1 y.2)->KG G a r p v y
theorem aL.n3{a:aD}{r:ax}{p:ζ}{v:Value}{y:Nat×List (Option ζ)}(g:aL c a r)(b:Rel s.G r p v)(e:n3 a p=some y):KG s.G a r p v y:=by
 refine ω e λi h e=>ω e λm j e=>(Θ λf=>?_)
 replace b:=(l4 h)▸b
 cases m with
 |lst=>exact f<|cR e
 |obj k u=>
  obtain rfl:=Φ e
  cases b with
  |ref o=>
   obtain⟨ro,t,n,q⟩:=g.base.root j o
   cases ro with
   |lst x=>cases q
   |obj x d=>exact f ⟨i,x,d,l4 h,j,congrArg Value.ref n.symm,t,q⟩
inductive Ku(c:Fr s)(r:ax)(v:Value)(y:Nat×List (Option ζ)):Prop
 |mk (x vs:_):v=.ref x->OC c r y.1 y.2 x vs->Ku c r v y
theorem aL.fields{r:ax}{v:Value}{y:Nat×List (Option ζ)}(g:aL c a r)(b:Rel s.G r p v)(e:lp a p=some y):Ku c r v y:=iU e (λe=>by
 refine Θ λm=>?_
 cases p with
 |inst k F=>
  obtain rfl:=Φ e
  cases b with
  |@inst _ _ vs x h l D k=>refine m ?_;refine⟨x,vs.map some,rfl,by rw[←Fh];exact h _ g.base.fy,⟨by rw[length_map,length_map];exact D,λi p w f j=>?_⟩,by rw[length_map];exact l⟩;replace f:=List.getElem?_map▸f;replace j:=List.getElem?_map▸j;obtain⟨u,E,rfl⟩:=Option.map_eq_some_iff.mp f;obtain⟨t,n,rfl⟩:=Option.map_eq_some_iff.mp j;exact⟨rfl,λx y o A=>by cases o;cases A;exact k i _ _ E n⟩
 |_=>refine m ?_;exact cR e) λe=>by
 refine Θ λz=>?_
 obtain⟨i,x,d,_,_,rfl,_,q⟩:=g.n3 b e
 cases q with
 |@obj _ _ _ _ vs _ _ C B l _=>exact z ⟨x,vs,rfl,C.inst,B,l⟩
theorem Rel.handed{r:ax}{v:Value}(h:Rel G r p v):handedOut v=pure v:=by cases h<;>rfl
def CL(x:Str)(d:Den):Den:=λa=>(d a).bind λp a=>.of<|(lp a p).bind λy=>if y.1≠0 then(fl (fieldsOf y.1) x).bind λk=>(y.2[k]?).bind λo=>o.bind λq=>some (q,a)else none
def sk(G:aB):Prop:=∀c,c≠0->fieldsOf c≠[]->l1 G c
theorem BB{l:List Str}{x:Str}(h:fl l x=some k):l≠[]:=λe=>by rw[e]at h;exact cR h
theorem aw.attr{x:Str}(C:sk s.G)(h:aw s e d)(m:mh e=true):aw s (.Attribute e x pos)<|CL x d:=λc a r Q E g p=>
 Attribute_any_ (h.then g p λv aX K a1 i J bj p=>p.of λz hz p=>ω hz λy G hz=>bY hz λl hz=>ω hz λk j hz=>ω hz λo n hz=>ω hz λq B hz=>by obtain⟨L,vs,rfl,I⟩:=i.fields bj G;refine Θ λH=>?_;obtain rfl:=Φ hz;subst B;have C:=C _ l<|BB j;obtain⟨bm,A,_⟩:=C.obj;refine H<|I.rel.at_ n λw F b=>?_;refine Θ λD=>?_;obtain⟨u,rfl⟩:=Option.isSome_iff_exists.mp b.1.symm;have f:=b.2 _ _ rfl rfl;refine D ?_;exact Nr (h:=aX.s.heap) (g:=aX.s.gens) (d:=aX.s.drawn) (t:=aX.s.toks) (os:=aX.s.os) (A.at_<|i.base.eW _) (C.ga i.base.eW) (C.own (fE j) i.base.eW) I.inst (px (lq _) (fE j) F) f.handed<|p.uM i f) (Cn m _ _ _)
structure t7(G:aB)(c:Nat):Prop where
 obj:Ce G c
 set:∀h:Heap,(∀a o,G.s.heap.get? a=some o->h.get? a=some o)->fj h (G.cls c) "__setattr__" (some<|.builtin "object.__setattr__")
 own:∀h:Heap,(∀a o,G.s.heap.get? a=some o->h.get? a=some o)->∀(k:Nat) x,(fieldsOf c)[k]?=some x->fj h (G.cls c) x none
theorem l1.store{c:Nat}(C:l1 G c):t7 G c:=⟨C.obj,λh b=>C.look h b _ _ _root_.PySem.F.store_object.slot.lookup (by rfl) (by rfl) (C.plain _<|by rfl),λh b k x d=>C.own d b⟩
def rH(G:aB):Prop:=∀c,fieldsOf c≠[]->t7 G c
theorem Hc{o:Expr}{x:Str}(l:Nat)(env:Env):swapsWith e (some<|.Attribute o x wO) l env=pure false:=by cases e<;>exact Eq.refl<|pure false
def gh(x:Str)(d de:Den):bL:=λa=>(de a).bind λv a=>(d a).bind λp a=>.of<|(n3 a p).bind λy=>(iM p).bind λi=>(fl (fieldsOf y.1) x).bind λk=>some (.next,⟨a.ρ,a.σ.set i<|.obj y.1<|y.2.set k<|some v⟩)
theorem a4.attr{o:Expr}{x:Str}{ap:Pos}(C:rH s.G)(h:aw s o d)(he:aw s e de):a4 s (.Assign [.Attribute o x ap] e pos)<|gh x d de:=λc a r Q E g p=>
 plainObj_wpAny_Assign_Attribute (he.then g p λv aX d1 a1 g1 bD bj p=>h.then g1 p λw f hQ a2 D cw bX p=>p.of λz hz p=>ω hz λy η hz=>ω hz λi μ hz=>ω hz λk ay hz=>by
  refine Θ λφ=>?_
  obtain rfl:=Φ hz
  clear hz
  clear hz
  obtain⟨j,G,gX,T,FL,rfl,H,q⟩:=D.n3 bX η
  replace T:=(l4 μ)▸T
  cases T
  have C:=C _<|BB ay
  obtain⟨bm,bE,Ur,s9⟩:=C.obj
  have S:=fE ay
  cases q with
  |@obj _ _ _ _ vs t p7 i3 gp l qJ=>
  obtain⟨eF,K,cp,jt,V⟩:=i3.ex
  have LC:G≠s.G.cls y.1:=λq=>by obtain⟨⟨_,_,_,_,_,_,_,_,_,_,_,_,_,e⟩⟩:=bE;exact Tag.noConfusion<|t.symm.trans<|q▸D.base.i1 _ _ (s.G.keep _ _ e)
  refine φ<|Jo (h:=f.s.heap) (g:=f.s.gens) (d:=f.s.drawn) (t:=f.s.toks) (os:=f.s.os) Ur (s9 G) (bE.at_<|D.base.eW _) (C.set _ D.base.eW) (C.own _ D.base.eW k _ S) LC i3.inst (λκ nr ji Lr Dl c0=>?_) (yf _ vs)<|yd _
  refine Θ λI=>?_
  obtain⟨Z,n,L,Y,s3,M⟩:=Dl eF K
  obtain⟨Su,t1,h2,t3,J⟩:=ji
  obtain rfl:=Φ<|L.symm.trans t1
  have N:Z.dict=some n:=by rw[Y]
  have U:n≠G/\κ.Ns1 n (eO (fieldsOf y.1)<|vs.set k<|some v):=by
   refine Θ λI=>?_;rcases J with⟨J,_⟩|⟨dw,J,P,R⟩
   ·exact I<|Oe<|N.symm.trans J
   ·obtain rfl:=Φ<|N.symm.trans J;refine I ?_;simp only[funext (Fg (v:=some v) (lq _) S (by rw[←gp.len,l];exact(b8 S).1))];exact⟨P,R⟩
  have Bo:f.T n=.bO i\/cx f.h n:=by
   cases X:gX with
   |none=>exact .inr<|dd<|Nat.le_of_eq (s3<|V.trans X).symm
   |some F=>exact .inl<|M F (V.trans X)▸p7 F X
  have O:∀b,f.T b≠.bO i->bA f.h b->b≠n:=λb q l e=>Bo.elim (λz=>q<|e▸z) λz=>l.ne<|e▸z
  refine I ?_
  refine And.elim (λg3 dN=>p _ _ g3 dN .next) (D.qy (r':=⟨{f.s with heap:=κ,toks:=nr},upd f.T n<|.bO i,f.a6.set i<|.obj G<|some n⟩) (σ':=a2.σ.set i<|.obj y.1<|y.2.set k<|some d1) ⟨λb q l=>⟨b7<|O b q l,λo e=>Lr b o (λz=>q<|z▸t) (λbu F A B z=>?_) e⟩,λb e=>?_,λb d=>?_,λb e=>?_,rfl,rfl,λj q=>List.getElem?_set_ne<|Ne.symm q,λx e=>?_⟩ (λb e=>⟨_,List.getElem?_set_self (b8 H).1,by
   by_cases z:b=n
   ·exact .inr<|congrArg some z.symm
   have e:upd f.T n (.bO i) b=.bO i:=e
   ·rw[b7 z]at e;obtain⟨ro,mI,q0⟩:=D.base.lH b i e;obtain rfl:=Φ<|H.symm.trans mI;exact q0.imp id λu=>(z (M b<|V.trans u).symm).elim⟩) ?_ (λj q=>List.getElem?_set_ne<|Ne.symm q) λro m A B=>?_)
  ·obtain rfl:=Φ<|K.symm.trans A;exact O b q l<|z.trans (M F B).symm
  ·by_cases z:b=n
   ·rw[z];exact cy
   ·exact(b7 z).trans e
  ·by_cases z:b=n
   ·rw[z];exact .inr cy
   ·exact .inl<|(b7 z).trans<|D.base.no d
  ·by_cases z:b=n
   ·exact z▸(let⟨o,_,_,e,_⟩:=U.2;⟨o,e⟩:bA κ n)
   ·have e:upd f.T n (.bO i) b=.bO i:=e;replace e:=(b7 z)▸e;by_cases gw:b=G
    ·exact⟨_,gw▸L⟩
    ·obtain⟨o,e⟩:=D.base.alive e Tag.noConfusion;exact⟨o,Lr b o gw (λbu F A B w5=>by cases K.symm.trans A;exact z<|w5.trans (M F B).symm) e⟩
  ·have ο:=(b8 H).1;replace e:=H▸e;refine(List.getElem?_set_self ο)▸?_;exact e
  ·show(f.a6.set i _).length=(a2.σ.set i _).length;rw[length_set,length_set];exact D.base.len
  ·have A:(f.a6.set i<|.obj G<|some n)[i]?=some ro:=A;replace A:=(List.getElem?_set_self (b8 H).1)▸A;replace B:=(List.getElem?_set_self (b8 FL).1)▸B;obtain rfl:=Φ A;cases B
   have mo:dq f ⟨{f.s with heap:=κ,toks:=nr},upd f.T n<|.bO i,f.a6.set i<|.obj G<|some n⟩:=⟨λb o e=>(b7<|O b (λz=>Tag.noConfusion<|e.symm.trans z)<|D.base.alive e Tag.noConfusion).trans e,λj x e=>by
    by_cases q:j=i
    ·subst q;refine(?_:((f.a6.set j _)[j]?).map _=_);refine(List.getElem?_set_self (b8 H).1)▸?_;replace e:=H▸e;exact e
    ·exact(congrArg (Option.map c2.addr)<|List.getElem?_set_ne<|Ne.symm q).trans e⟩
   exact .obj ((b7<|Ne.symm U.1).trans t) (λF e=>by cases e;exact cy) ⟨⟨Z,L,h2,t3,N⟩,(Oe),λF e=>by cases e;exact U⟩ ((gp.imp λW W z=>z.mono mo).set ⟨rfl,λx y A B=>by cases A;cases B;exact(bj.mono cw.mono).mono mo⟩ k) (by rw[length_set];exact l) (by refine Θ λI=>?_;obtain⟨o,A,B,bQ⟩:=qJ;obtain rfl:=Φ<|K.symm.trans A;refine I ?_;exact⟨Z,L,by rw[Y];exact B,by rw[Y];exact bQ⟩)) (Hc _ _)
structure mO(G:aB)(K:Nat)(c:Nat)(x:Str)(con:cn):Prop where
 ex:∃f,d3 G K f con/\xv G c x f
 ok:afi x=true/\(fieldsOf c).contains x=false/\c≠0/\fieldsOf c≠[]
def CR(mt:Nat->Str->Option cn)(x:Str)(d:Den)(ds:aI):Den:=λa=>(d a).bind λp a=>(Res.of<|(lp a p).bind λy=>(mt y.1 x).bind λcon=>some (con,a)).bind λcon a=>nK (λps σ=>con ([p]++ps) σ) ds a
theorem aw.UT{o:Expr}{x:Str}{mt:Nat->Str->Option cn}(C:sk s.G)(M:∀c x con,mt c x=some con->mO s.G s.K c x con)(h:aw s o d)(n:eb s es ds)(l:mh o=true)(j:fw es=true)(u:(afa.endLine==pos.line)=true):
 aw s (.Call (.Attribute o x afa) es [] pos) (CR mt x d ds):=λc a r Q E g p=>
 MethodCall_ (h.then g p λv aX P a1 b O bj p=>Res.qu p λz hz p=>ω hz λy H hz=>ω hz λcon J hz=>by
  refine Θ λK=>?_
  obtain rfl:=Φ hz
  obtain⟨w,vs,rfl,I⟩:=b.fields bj H
  obtain⟨⟨f,F,L⟩,R,A,B,i⟩:=M _ _ _ J
  have C:=C _ B i
  obtain⟨bm,m,_⟩:=C.obj
  obtain⟨S,fd,G,N,D⟩:=F.fn
  have k:eO (fieldsOf y.1) vs x=none:=by unfold eO;refine Eq.symm (sj λq=>Bool.noConfusion<|A.symm.trans<|List.contains_iff_mem.mpr q)▸?_;rfl
  refine K<|F4 (h:=aX.s.heap) (g:=aX.s.gens) (d:=aX.s.drawn) (t:=aX.s.toks) (os:=aX.s.os) (m.at_<|b.base.eW _) (C.ga b.base.eW) (C.look _ b.base.eW _ _ _root_.PySem.F.lk_object_getattr (by rfl) (by rfl)<|C.plain _<|by rfl) (L.look _ b.base.eW) (b.base.eW _ _ G) D I.inst k ?_
  refine aft (first:=[.ref w]) F (Nat.le_refl _) n b (.cons bj .nil) p ⟨_,rfl,?_⟩
  rw[lN<|n4 j]
  cases es with
  |nil=>exact .inl rfl
  |cons e es=>exact .inr ⟨_,_,rfl⟩) (tl l _ j u _)
end
end
def lim{β:Type}(f:Nat->Res β):Res β:=open Classical in if h:∃n,f n≠.stuck then f (Classical.choose h)else .stuck
theorem yZ{f:Nat->Res β}(d:∀n,f n≠.stuck->f (n+1)=f n)(h:f n≠.stuck):lim f=f n:=by
 have le:∀{n:Nat},f n≠.stuck->∀k,f (n+k)=f n:=λ{n} h k=>by
  induction k with
  |zero=>rfl
  |succ k b=>exact(d (n+k)<|b▸h).trans b
 have hex:∃n,f n≠.stuck:=⟨n,h⟩;unfold lim;refine(dif_pos hex)▸?_;have c:=Classical.choose_spec hex;rcases Nat.le_total n (Classical.choose hex)with q|q
 ·obtain⟨k,e⟩:=Nat.exists_eq_add_of_le q;rw[e];exact le h k
 ·obtain⟨k,e⟩:=Nat.exists_eq_add_of_le q;exact((congrArg f e).trans<|le c k).symm
theorem n0{f:Nat->Res β}(h:lim f≠.stuck):∃n,f n=lim f:=by
 by_cases hex:∃n,f n≠.stuck
 ·exact⟨_,by unfold lim;rw[dif_pos hex]⟩
 ·exact(h (by unfold lim;rw[dif_neg hex])).elim
noncomputable def ee{α:Type}:Res α->Res α
 |.err _ _=>.stuck
 |x=>x
noncomputable def nR(F:bL)(f:aS)(a:aD):Res aS:=match f with
 |.next=>F a
 |.ret p=>.ok (.ret p) a
def kT(c:dP)(d:bL)(F:bL):bL:=λa=>(ee<|c a).bind λb a=>if b then(ee<|d a).bind (nR F)else .ok .next a
noncomputable def gD(c:dP)(d:bL):Nat->bL
 |0=>λx=>.stuck
 |n+1=>kT c d (gD c d n)
theorem B1(c:dP)(d:bL)(a:aD):(∃r,∀F,kT c d F a=r)\/∃a',∀F,kT c d F a=F a':=by
 unfold kT
 cases ee (c a)with
 |stuck=>exact .inl ⟨_,λx=>rfl⟩
 |err k a=>exact .inl ⟨_,λx=>rfl⟩
 |ok b a=>
  cases b with
  |false=>exact .inl ⟨_,λx=>rfl⟩
  |true=>
   refine(?_:(∃r,∀F,(ee<|d a).bind (nR F)=r)\/∃a',∀F,(ee<|d a).bind (nR F)=F a')
   cases ee (d a)with
   |stuck=>exact .inl ⟨_,λx=>rfl⟩
   |err k a=>exact .inl ⟨_,λx=>rfl⟩
   |ok f a=>
    cases f with
    |ret p=>exact .inl ⟨_,λx=>rfl⟩
    |next=>exact .inr ⟨a,λx=>rfl⟩
theorem rC(c:dP)(d:bL):∀(n:Nat) (a:aD),gD c d n a≠.stuck->gD c d (n+1) a=gD c d n a
 |0,_,h=>(h rfl).elim
 |n+1,a,h=>by
  rcases B1 c d a with⟨r,e⟩|⟨a',e⟩
  ·exact(e _).trans (e _).symm
  ·exact(e _).trans<|(rC c d n a'<|e (gD c d n)▸h).trans (e _).symm
def c4(c:dP)(d:bL):bL:=λa=>lim λn=>gD c d n a
theorem vz(c:dP)(d:bL)(a:aD):c4 c d a=kT c d (c4 c d) a:=by
 refine Θ λj=>?_;have g:=rC c d;rcases B1 c d a with⟨r,e⟩|⟨a',e⟩
 ·refine j ?_;rw[e];by_cases h:r=.stuck
  ·refine Classical.byContradiction λq=>?_;obtain⟨n,b⟩:=n0 (f:=λn=>gD c d n a)<|h▸q;cases n with
   |zero=>exact q<|b.symm.trans h.symm
   |succ n=>exact q<|b.symm.trans<|e _
  ·exact(yZ (n:=1) (λn=>g n a) (by show kT c d _ a≠_;rw[e];exact h)).trans<|e _
 ·refine j ?_;rw[e];by_cases h:c4 c d a'=.stuck
  ·refine Classical.byContradiction λq=>?_;obtain⟨n,b⟩:=n0 (f:=λn=>gD c d n a)<|h▸q;cases n with
   |zero=>exact q<|b.symm.trans h.symm
   |succ n=>have b:kT c d (gD c d n) a=c4 c d a:=b;rw[e]at b;exact q<|b.symm.trans (yZ (λn=>g n a') λz=>q<|(b.symm.trans z).trans h.symm).symm
  ·obtain⟨n,b⟩:=n0 h;have i:gD c d (n+1) a=c4 c d a':=(e _).trans b;exact(yZ (λn=>g n a) (by rw[i];exact h)).trans i
variable {is:List Nat}
section
variable {c:Fr s}
theorem tu{r:ax}{d:Res β}{k:β->aD->Res aS}{Q:Flow->Shared->Prop}{f:Value->Shared->Prop}{R:ax->β->α->Prop}{W:α->Shared->Prop}(g:aL c a r)(p:bM c r (kc s.G) ((ee d).bind k) Q E)
 (ae1:∀x r' b a',aL c a' r'->bt r r'->R r' b x->bM c r' (kc s.G) (k b a') Q E->W x r'.s):bM c r R d W f:=by
 cases d with
 |stuck=>exact p.elim
 |err k a=>exact p.elim
 |ok b a'=>exactλx r' e st q=>ae1 x r' b a' e st q<|bM.step p g e st
inductive KL(c:Fr s)(P:Nat->aD->ax->Prop)(n:Nat)(s':Shared):Prop
 |mk (a r:_):s'=r.s->aL c a r->P n a r->KL c P n s'
theorem a4.while{h:dP}{d:bL}(l:dh s t h)(q:gG s body d):a4 s (.While t body [] pos)<|c4 h d:=λc a r Q E g p=>by
 refine Θ λv=>?_
 by_cases j:c4 h d a=.stuck
 ·rw[j]at p;exact p.elim
 obtain⟨n,e⟩:=n0 j
 have e:gD h d n a=c4 h d a:=e
 rw[←e]at p
 refine v<|wpAny_While<|codeAny_whileLoop (KL c λn a r=>bM c r (kc s.G) (gD h d n a) Q E) (λn s' u=>?_) n ⟨a,r,rfl,g,p⟩
 obtain⟨a,r,rfl,g,p⟩:=u
 cases n with
 |zero=>exact p.elim
 |succ n=>
  refine l c a r _ _ g<|tu g p λx aX b a1 i st e p=>?_
  subst e
  cases x with
  |false=>exact wpAny_execs_nil<|p.now i .next
  |true=>
   refine q c a1 aX _ _ i<|tu i p λf m o a2 k w bX p=>?_
   cases bX with
   |next=>exact⟨n,lt_succ_self _,a2,m,rfl,k,p⟩
   |ret bX=>exact p.now k<|.ret bX
noncomputable abbrev gx:=ζ->List (Option ζ)->Option (List<|Option ζ)
def kd(s:d8)(t:Expr)(f:gx):Prop:=∀(c:Fr s) a r p v (Q:Unit->Shared->Prop) E b,aL c a r->Rel s.G r p v->f p a.ρ=some b->(∀r',aL c ⟨b,a.σ⟩ r'->bt r r'->Q () r'.s)->wpAny s.G.M c.A (assign t c.env v) Q E r.s
noncomputable def bh(i:Nat):gx:=λp ρ=>some<|ρ.set i<|some p
theorem kd.name{x:Str}{i:Nat}(d:s.ai.names[i]?=some x)(f:HE s.ai x):kd s (.Name x pos)<|bh i:=λc a r p v Q E j g b e h=>by obtain rfl:=Φ e;exact PyProof.Rows.assign_Name<|lP g d f b h
noncomputable def zM:List Nat->List ζ->List (Option ζ)->Option (List<|Option ζ)
 |[],[],ρ=>some ρ
 |i::is,p::ps,ρ=>zM is ps (ρ.set i<|some p)
 |_,_,_=>none
inductive kE(ai:aeY):List Expr->List Nat->Prop
 |nil:kE ai [] []
 |cons {x:Str} {pos:Pos} {i:Nat} {es:List Expr} {is:List Nat}:ai.names[i]?=some x->HE ai x->kE ai es is->kE ai (.Name x pos::es) (i::is)
theorem kE.len(h:kE s.ai es is)(env:Env):(assignEach es env).length=is.length/\(assignEach es env).findIdx? (·.1)=none:=by
 induction h with
 |nil=>exact⟨rfl,rfl⟩
 |@cons x pos i es is d e _ b=>have c:assignEach (.Name x pos::es) env=(false,assign (.Name x pos) env)::assignEach es env:=rfl;refine c▸?_;rw[findIdx?_cons,b.2];exact⟨congrArg (·+1) b.1,rfl⟩
theorem storeAll(l:kE s.ai es is):∀(c:Fr s) (a:aD) (ps:List ζ) (vs:List Value) (r:ax) (b:List<|Option ζ) (Q:Unit->Shared->Prop) (E:Value->Shared->Prop),aL c a r->bV s.G r ps vs->zM is ps a.ρ=some b->(∀r',aL c ⟨b,a.σ⟩ r'->bt r r'->Q () r'.s)->
 wpAny s.G.M c.A (assignInOrder ((assignEach es c.env).map (·.2)) vs) Q E r.s:=by
 induction l with
 |nil=>
  intro c a ps vs r b Q E g e d h
  cases ps with
  |cons=>exact cR d
  |nil=>obtain rfl:=Φ d;exact ψ<|h r g g.refl
 |@cons x pos i es is m o _ k=>
  intro c a ps vs r b Q E g e d h
  cases ps with
  |nil=>exact cR d
  |cons p ps=>
   cases vs with
   |nil=>exact Of e.len
   |cons v vs=>refine(?_:wpAny _ _ (do holding _ (assign (.Name x pos) c.env v);assignInOrder ((assignEach es c.env).map (·.2)) vs) _ _ _);exact υ<|wpAny_holding<|PyProof.Rows.assign_Name<|lP g m o e.head λaX j f=>k c _ ps vs aX b Q E j (e.tail.mono f.mono) d λr' n q=>h r' n<|g.fi j f q
def gc(is:List Nat):gx:=λp ρ=>(nD p).bind λps=>if ps.length=is.length then if ps.length<=100 then zM is ps ρ else none else none
theorem kd.tup(i:kE s.ai es is):kd s (.Tuple es k pos)<|gc is:=λc a r p v Q E q g f d h=>ω d λps w d=>bY d λy d=>bY d λB d=>by refine Θ λA=>?_;replace f:=(jO w)▸f;obtain⟨x,vs,rfl,z,j⟩:=f.qE;refine A<|wpAny_assign_Tuple g.ij.handled ⟨_,g.base.fy _ _ z,rfl,_,rfl⟩ (by rw[(i.len c.env).1,List.size_toArray,←j.len,y]) (i.len c.env).2 λκ u=>?_;obtain⟨m,l⟩:=g.grow (λb o e=>u b o (ne_of_lt<|lt_size e) e) (dd<|Nat.le_refl _)<|.inl rfl;exact storeAll i c a ps vs _ q Q E m (j.mono l.mono) d λr' n t=>h r' n<|g.fi m l t
def uv(f:gx)(d:Den):bL:=λa=>(d a).bind λp a=>.of<|(f p a.ρ).bind λρ=>some (.next,⟨ρ,a.σ⟩)
theorem a4.unpack{f:Pos}(h:aw s e d)(j:kE s.ai es is)(i:∀env,swapsWithSole [.Tuple es k f] e pos.line env=pure false)(t:∀env,swappedStores [.Tuple es k f] e env=pure none):
 a4 s (.Assign [.Tuple es k f] e pos) (uv (gc is) d):=λc a r Q E g p=>
 Assign_Tuple (h.then g p λv aX m a1 o w bj p=>p.of λy b p=>ω b λn u b=>by obtain rfl:=Φ b;exact kd.tup j c a1 aX m v _ E n o bj u λr' l q=>p .next r' l q .next) (i _) (t _)
end
structure qb(h:Heap)(it:Addr):Prop where
 ex:∃o vs T,h.get? it=some o/\o.data=.fields vs/\o.cls=.type T/\T≠"traceback"
variable {it:Addr}
theorem qb.not{h:Heap}(x:qb h it):(∀m,¬h.Ns it m)/\∀w,¬h.IsCell it w:=by obtain⟨o,vs,T,e,d,_⟩:=x.ex;exact⟨λm ⟨bu,es,c,e',b,z⟩=>by cases e.symm.trans e';exact Data.noConfusion<|d.symm.trans b,λw ⟨bu,e',b⟩=>by cases e.symm.trans e';exact Data.noConfusion<|d.symm.trans b⟩
theorem qb.kept{h:Heap}(x:qb h it)(k:c9 h κ it):κ.get? it=h.get? it:=by
 refine Θ λc=>?_
 obtain⟨o,vs,T,e,d,b,n⟩:=x.ex
 obtain⟨bu,e',q⟩:=k o e
 refine c<|e▸?_
 refine e'▸?_
 clear c k e e'
 cases q with
 |same=>rfl
 |slots _ _ _ f=>exact Data.noConfusion<|d.symm.trans f
 |exc _ y _ _=>exact y.2.elim (λz=>(n<|by injection b.symm.trans z).elim) λg=>Exists.elim g λC z=>nomatch b.symm.trans z
structure gO(G:aB)(b6:ax)(it:Addr)(xs:List ζ)(St:Nat->Heap->Prop):Prop where
 at_:∀i h κ,St i h->κ.get? it=h.get? it->St i κ
 fields:∀i h,St i h->qb h it
 turn:∀i x (r:ax) σ (A:Around) (E:Value->Shared->Prop) (Q:Option Value->Shared->Prop),ae0 G r σ->dq b6 r->St i r.h->xs[i]?=some x->(∀v κ tk,Rel G r x v->St (i+1) κ->SameBut it r.h κ->Q (some v) {r.s with heap:=κ,toks:=tk})->wpAny G.M A (pyNext<|.ref it) Q E r.s
 fin:∀i (r:ax) σ (A:Around) (E:Value->Shared->Prop) (Q:Option Value->Shared->Prop),A.handled=none->ae0 G r σ->dq b6 r->St i r.h->xs[i]?=none->(∀κ,ExtBut it r.h κ->Q none {r.s with heap:=κ})->wpAny G.M A (pyNext<|.ref it) Q E r.s
 own:∀i t v (A:Around) (E:Value->Shared->Prop) (Q:Unit->Shared->Prop) (s:Shared),St i s.heap->Q () s->wpAny G.M A (letOwnedTupleGo t (.ref it) v) Q E s
 again:∀i (A:Around) (E:Value->Shared->Prop) (Q:Value->Shared->Prop) (s:Shared),St i s.heap->Q (.ref it) s->wpAny G.M A (pyIter<|.ref it) Q E s
noncomputable def ae5(f:ζ->bL):List ζ->bL
 |[]=>λa=>.ok .next a
 |x::xs=>λa=>(ee<|f x a).bind<|nR<|ae5 f xs
noncomputable def cE(f:gx)(d:bL):ζ->bL:=λx a=>match f x a.ρ with
 |some ρ=>d ⟨ρ,a.σ⟩
 |none=>.stuck
variable {f:gx}{St:Nat->Heap->Prop}{iter:Expr}{iC:aI}
section
variable {c:Fr s}
theorem aL.other{r:ax}(g:aL c a r)(d:r.T it=.no)(I:qb r.h it)(k:∀b o,b≠it->r.h.get? b=some o->κ.get? b=some o):aL c a ⟨{r.s with heap:=κ,toks:=tk},r.T,r.a6⟩:=
 g.chg ⟨λx x=>rfl,λb q o e=>k b o q e,rfl,rfl⟩ (λb q=>by cases q;exact⟨λo q=>Tag.noConfusion<|d.symm.trans q,λo q=>Tag.noConfusion<|d.symm.trans q,λi q=>Tag.noConfusion<|d.symm.trans q,λq=>(q d).elim,λi q=>Tag.noConfusion<|d.symm.trans q⟩) rfl λb q=>by cases q;exact⟨d,.inl I.not.1,I.not.2⟩
theorem bt.other{r:ax}(st:bt r r')(d:cx r.h it)(k:∀b o,b≠it->r'.h.get? b=some o->κ.get? b=some o):bt r ⟨{r'.s with heap:=κ,toks:=tk},r'.T,r'.a6⟩:=
 ⟨⟨st.mono.z,st.mono.m⟩,λa t o e=>by obtain⟨bu,e',q⟩:=st.keep a t o e;exact⟨bu,k a bu (λz=>bA.ne ⟨o,z▸e⟩ d) e',q⟩,st.no,st.fr,st.bO⟩
theorem bM.move{r:ax}{R:ax->β->α->Prop}{d:Res β}{Q:α->Shared->Prop}(h:bM c r R d Q E)(st:bt r r')(l:∀a,r.T a≠.no->bA r.h a)(f:∀a,r'.T a≠.no->bA r'.h a):bM c r' R d Q E:=by
 cases d with
 |stuck=>exact h
 |ok b a=>exactλx bz e s b=>h x bz e (st.trans s l f) b
 |err k a=>exactλx bz e s b=>h x bz e (st.trans s l f) b
theorem DE{r r₂:ax}{d:Res β}{k:β->aD->Res aS}{Q:Flow->Shared->Prop}{f:Value->Shared->Prop}{R:ax->β->α->Prop}{W:α->Shared->Prop}(p:bM c r (kc s.G) ((ee d).bind k) Q E)
 (ae1:∀x r' b a',aL c a' r'->bt r₂ r'->R r' b x->bM c r (kc s.G) (k b a') Q E->W x r'.s):bM c r₂ R d W f:=by
 cases d with
 |stuck=>exact p.elim
 |err k a=>exact p.elim
 |ok b a'=>exactλx r' e st q=>ae1 x r' b a' e st q p
structure At(c:Fr s)(r b6:ax)(it:Addr)(St:Nat->Heap->Prop)(i:Nat)(a:aD)(r₁:ax):Prop where
 fit:aL c a r₁
 fi:bt r r₁
 mono:dq b6 r₁
 no:r₁.T it=.no
 st:St i r₁.h
inductive Em(c:Fr s)(r b6:ax)(it:Addr)(St:Nat->Heap->Prop)(xs:List ζ)(P:Nat->aD->Prop)(n:Nat)(s':Shared):Prop
 |mk (i a r₁:_):s'=r₁.s->n=xs.length-i->At c r b6 it St i a r₁->P i a->Em c r b6 it St xs P n s'
theorem afP{d:bL}{Q:Flow->Shared->Prop}(cL:kd s t f)(hd:gG s body d){r:ax}(I:gO s.G b6 it xs St)(F:∀a,r.T a≠.no->bA r.h a)
 (g5:At c r b6 it St 0 a r₁) (O:cx r.h it) (p:bM c r (kc s.G) (ae5 (cE f d) xs a) Q E):
 codeAny s.G.M c.A (.forLoop t (.ref it) body [] c.env) (λr s'=>match r with|.ok f=>Q f s'|.error e=>cameBackBy s.G.M c.A c.env E e s') r₁.s:=by
 refine codeAny_forLoop_any (Em c r b6 it St xs λi a=>bM c r (kc s.G) (ae5 (cE f d) (xs.drop i) a) Q E) (λn s' ji=>?_) (xs.length-0) ⟨0,a,r₁,rfl,rfl,g5,p⟩
 refine Θ λK=>?_
 obtain⟨i,a,r₁,rfl,X,⟨g,st,A,u,C⟩,p⟩:=ji
 have R:=I.fields _ _ C
 cases l:xs[i]? with
 |none=>rw[drop_eq_nil_of_le<|List.getElem?_eq_none_iff.mp l]at p;exact K<|I.fin i r₁ a.σ _ _ _ g.ij.handled g.base A C l λκ P=>wpAny_execs_nil<|p .next _ (g.other u R λb o q e=>P b o q e) (st.other O λb o q e=>P b o q e) .next
 |some x=>
  have w:=(b8 l).1
  rw[drop_eq_getElem_cons w]at p
  rw[(b8 l).2]at p
  refine K<|I.turn i x r₁ a.σ _ _ _ g.base A C l λv κ tk V D dE=>?_
  have k:∀b o,b≠it->r₁.h.get? b=some o->κ.get? b=some o:=λb o q e=>(dE.2 b q).trans e
  have M:=g.other (tk:=tk) u R k
  have Y:=st.other (tk:=tk) O k
  refine I.own (i+1) _ _ _ _ _ _ D<|Θ λey=>?_
  have h:bM c r (kc s.G) ((ee<|cE f d x a).bind<|nR<|ae5 (cE f d)<|xs.drop<|i+1) Q E:=p
  unfold cE at h
  cases z:f x a.ρ with
  |none=>rw[z]at h;exact h.elim
  |some L=>
   replace h:=z▸h
   refine ey<|cL c a ⟨{r₁.s with heap:=κ,toks:=tk},r₁.T,r₁.a6⟩ x v _ _ L M (V.mono ⟨λW W e=>e,λW W e=>e⟩) z λr₂ y m=>?_
   have H:=Y.trans m F M.base.live
   refine hd c ⟨L,a.σ⟩ r₂ _ _ y<|DE (k:=nR<|ae5 (cE f d)<|xs.drop<|i+1) h λrT J o U N j B T=>?_
   cases B with
   |ret B=>exact T _ J N (H.trans j F y.base.live)<|.ret B
   |next=>refine Θ λZ=>?_;have G:=I.fields _ _ D;obtain⟨bu,_,_,e',_⟩:=G.ex;have S:bA (ax.h ⟨{r₁.s with heap:=κ,toks:=tk},r₁.T,r₁.a6⟩) it:=⟨bu,e'⟩;have h2:=m.no it u S;have dD:=m.keep it u;have d9:=j.keep it h2;exact Z ⟨xs.length-(i+1),(hB 0x101e0212e493102e4991183212e10 [_,_,_,_,_] ι X (Nat.sub_add_cancel<|aV 0x100e19118001e10 [_,_] ι w)<|Nat.sub_add_cancel<|aV 0x100e1001e10 [_,_] ι w),i+1,U,J,rfl,rfl,⟨N,H.trans j F y.base.live,(A.trans (⟨λW W e=>e,λW W e=>e⟩:dq r₁ ⟨{r₁.s with heap:=κ,toks:=tk},r₁.T,r₁.a6⟩)).trans<|m.mono.trans j.mono,j.no it h2<|dD.live S,I.at_ _ _ _ D<|G.kept<|dD.trans d9⟩,T⟩
theorem Gu{w:World}{s:Shared}{v:Value}{n:String}{Q:Unit->Shared->Prop}(c:s.heap.get? it=some o)(b:o.cls=.type n)
 (d:(["enumerate","zip","dict_itemiterator","dict_reverseitemiterator","odict_iterator","itertools.zip_longest","itertools.pairwise"]:List String).contains n=false) (h:Q () s):wpAny (model prog w) A (letOwnedTupleGo t (.ref it) v) Q E s:=by
 cases t with
 |Tuple es k p=>
  cases v<;>first|exact ψ h|skip
  refine fN c<|b▸?_
  generalize o.data=gX
  cases gX with
  |fields vs=>dsimp only;exact d▸(ψ h)
  |_=>exact ψ h
 |List es k=>
  cases v<;>first|exact ψ h|skip
  refine fN c<|b▸?_
  generalize o.data=gX
  cases gX with
  |fields vs=>dsimp only;exact d▸(ψ h)
  |_=>exact ψ h
 |_=>exact ψ h
theorem gO.list{a:Addr}(l:b6.T a=.z (bW vs n))(m:bV G b6 xs vs):gO G b6 it xs (λi h=>h.IsListIter it a i)where
 at_:=λi h κ ⟨o,e,q⟩ e'=>⟨o,e'.trans e,q⟩
 fields:=λi h ⟨o,e,c,q⟩=>⟨o,_,_,e,q,c,by decide⟩
 turn:=λi x r σ A E Q b f d k h=>m.at_ k λy u j=>wpAny_pyNext_list_item d (jW<|b.fy _ _<|f.z _ _ l) (getElem?_toArray.trans u) λκ p z=>h _ κ r.s.toks (j.mono f) p z
 fin:=λi r σ A E Q w b f d k h=>wpAny_pyNext_list_end w d (jW<|b.fy _ _<|f.z _ _ l) (by rw[getElem?_toArray,List.getElem?_eq_none_iff,←m.len];exact List.getElem?_eq_none_iff.mp k) h
 own:=λi t v A E Q s ⟨o,e,c,Y⟩ g=>Gu e c (by rfl) g
 again:=λi A E Q s e g=>wpAny_pyIter_listiter e g
inductive OD(c:Fr s)(r:ax)(a:aD)(xs:List ζ)(it:Addr)(r':ax):Prop
 |mk (St r₁:_):bt r r₁->(∀a,r₁.T a≠.no->bA r₁.h a)->At c r₁ r₁ it St 0 a r'->gO s.G r₁ it xs St->cx r₁.h it->OD c r a xs it r'
def ny(c:Fr s)(r:ax)(d:Res<|List ζ)(Q:Value->Shared->Prop)(E:Value->Shared->Prop):Prop:=match d with
 |.stuck=>False
 |.ok xs a=>∀it r',OD c r a xs it r'->Q (.ref it) r'.s
 |.err k a=>∀v r',aL c a r'->bt r r'->Flying s.G k r' v->E v r'.s
def iJ(s:d8)(e:Expr)(d:aI):Prop:=(∀env x,foldedSetIterable e env x=pure x)/\∀(c:Fr s) a r Q E,aL c a r->ny c r (d a) Q E->wpAny s.G.M c.A (eval e c.env) (λx aO=>wpAny s.G.M c.A (pyIter x) Q E aO) E r.s
theorem aP.L7{t:Env->Sem α}{d:aD->Res β}{R:ax->β->α->Prop}{r:ax}{k:β->aD->Res (List ζ)}{W:α->Shared->Prop}(h:aP s t d R)(g:aL c a r)(p:ny c r ((d a).bind k) Q E)
 (ae1:∀x r' b a',aL c a' r'->bt r r'->R r' b x->ny c r (k b a') Q E->W x r'.s):wpAny s.G.M c.A (t c.env) W E r.s:=by
 refine h c a r W E g ?_
 generalize d a=y at p
 cases y with
 |stuck=>exact p
 |ok b a'=>exactλx r' e st q=>ae1 x r' b a' e st q p
 |err k a'=>exact p
theorem ny.of{r:ax}{o:Option<|List ζ×aD}(p:ny c r (.of o) Q E)(k:∀x,o=some x->ny c r (.ok x.1 x.2) Q E->P):P:=by
 cases o with
 |none=>exact p.elim
 |some x=>exact k x rfl p
def eh(d:Den):aI:=λa=>(d a).bind λp a=>.of<|(jM p).bind λxs=>some (xs,a)
theorem Gj{r:ax}(g:aL c a r₁)(k:∀b o,r₁.h.get? b=some o->κ.get? b=some o)(d:cx r₁.h it)(h:St 0 κ):At c r₁ r₁ it St 0 a ⟨{r₁.s with heap:=κ,toks:=tk},upd r₁.T it .no,r₁.a6⟩:=by obtain⟨f,e⟩:=g.grow k d<|.inl rfl;exact⟨f,e,e.mono,cy,h⟩
theorem iJ.list(h:aw s e d)(j:∀env x,foldedSetIterable e env x=pure x):iJ s e<|eh d:=⟨j,λc a r Q E g p=>h.L7 g p λv aX q a1 i l bj p=>p.of λy f p=>ω f λxs m f=>by refine Θ λo=>?_;obtain rfl:=Φ f;replace bj:=(hg m)▸bj;obtain⟨x,vs,n,rfl,z,k⟩:=bj.jY;refine o<|wpAny_pyIter_list (jW<|i.base.fy _ _ z) ?_;exact p _ ⟨{aX.s with heap:=aX.h.push {cls:=.type "list_iterator",data:=.fields #[.ref x,.int 0 0]}},upd aX.T aX.h.objs.size .no,aX.a6⟩ ⟨_,aX,l,i.base.live,Gj (r:=r) i (λb bu e=>get?_push_of_some _ e) (dd<|Nat.le_refl aX.h.objs.size) ⟨_,get?_push_size _ rfl,rfl,rfl⟩,gO.list z k,(dd<|Nat.le_refl aX.h.objs.size)⟩⟩
def lh(f:gx)(d:bL)(iC:aI):bL:=λa=>(iC a).bind λxs a=>ae5 (cE f d) xs a
theorem a4.for{d:bL}(b:iJ s iter iC)(i:kd s t f)(l:gG s body d):a4 s (.For t iter body [] pos)<|lh f d iC:=λc a r Q E g p=>by
 refine wpAny_For (b.2 c a r _ _ g ?_)<|b.1 _
 unfold lh at p
 generalize iC a=y at p
 cases y with
 |stuck=>exact p
 |err k a'=>exact p
 |ok xs a1=>intro it m I;obtain⟨St,r₁,h,e,A,I,j⟩:=I;exact afP i l I e A j<|bM.move p h g.base.live e
noncomputable def bI(a c:Int)(n:Nat):List ζ:=(List.range n).map λ(i:Nat)=>.int<|a+(i:Int)*c
theorem DN{a c:Int}{i:Nat}{x:ζ}(h:(bI a c n)[i]?=some x):i<n/\x=.int (a+i*c):=by unfold bI at h;rw[List.getElem?_map]at h;obtain⟨j,d,rfl⟩:=Option.map_eq_some_iff.mp h;have b:=(b8 d).1;replace b:=length_range▸b;replace d:=(List.getElem?_range b)▸d;clear h;obtain rfl:=Φ d;exact⟨b,rfl⟩
theorem tF(a c:Int)(n i:Nat):a+(i:Int)*c+c=a+((i+1:Nat):Int)*c/\(n:Int)-i-1=(n:Int)-((i+1:Nat):Int):=by simp only[natCast_add,Int.add_mul];exact⟨by rw[Int.add_assoc];simp,(eB 0x108ea9b118b1b0a118ab1b0 [_,_] ι)⟩
theorem gO.range(a c:Int)(n:Nat):gO G b6 it (bI a c n) (λi h=>IsRangeIter h it (a+i*c) ((n:Int)-i) c)where
 at_:=λi h κ e e'=>e'.trans e
 fields:=λi h e=>⟨_,_,_,e,rfl,rfl,by decide⟩
 turn:=λi x r σ A E Q b p d j h=>by obtain⟨o,rfl⟩:=DN j;refine wpAny_pyNext_range_item d (Int.sub_pos_of_lt<|ofNat_lt.mpr o) λκ k m=>h _ κ (r.s.toks+1) (.int _ _) ?_ m;rw[(tF a c n i).1,(tF a c n i).2]at k;exact k
 fin:=λi r σ A E Q l b p d j h=>by have g:=List.getElem?_eq_none_iff.mp j;unfold bI at g;rw[length_map,length_range]at g;exact wpAny_pyNext_range_end l d (Int.sub_nonpos_of_le<|ofNat_le.mpr g) h
 own:=λi t v A E Q s e f=>Gu e rfl (by rfl) f
 again:=λi A E Q s e f=>wpAny_pyIter_rangeiter e f
end
noncomputable def fQ:List ζ->Option (List Int)
 |[]=>some []
 |p::ps=>(gd p).bind λi=>(fQ ps).bind λis=>some<|i::is
theorem bV.ints{G:aB}{r:ax}:∀{ps:List ζ} {vs:List Value} {is:List Int},bV G r ps vs->fQ ps=some is->∃cC:List Tok,cC.length=is.length/\vs=List.zipWith Value.int is cC
 |[],vs,is,h,e=>by cases e;cases length_eq_zero_iff.mp h.len.symm;exact⟨[],rfl,rfl⟩
 |p::ps,vs,is,h,e=>ω e λi b e=>ω e λd c e=>by
  cases e
  cases vs with
  |nil=>exact nomatch h.len
  |cons v vs=>obtain⟨t,rfl⟩:=h.head.jl b;obtain⟨cC,l,rfl⟩:=bV.ints h.tail c;exact⟨t::cC,congrArg (·+1) l,rfl⟩
variable {cC:List Tok}
theorem ints1{i:Int}(l:cC.length=[i].length)(e:vs=List.zipWith Value.int [i] cC):∃t,vs=[.int i t]:=by
 cases cC with
 |nil=>exact AP l
 |cons t cC=>cases length_eq_zero_iff.mp (Nat.succ.inj l);exact⟨t,e⟩
theorem ints2{i j:Int}(l:cC.length=[i,j].length)(e:vs=List.zipWith Value.int [i,j] cC):∃t u,vs=[.int i t,.int j u]:=by
 cases cC with
 |nil=>exact AP l
 |cons t cC=>obtain⟨u,h⟩:=ints1 (Nat.succ.inj l) rfl;exact⟨t,u,e.trans (congrArg (Value.int i t::·) h)⟩
theorem ints3{i j k:Int}(l:cC.length=[i,j,k].length)(e:vs=List.zipWith Value.int [i,j,k] cC):∃t u x,vs=[.int i t,.int j u,.int k x]:=by
 cases cC with
 |nil=>exact AP l
 |cons t cC=>obtain⟨u,x,h⟩:=ints2 (Nat.succ.inj l) rfl;exact⟨t,u,x,e.trans (congrArg (Value.int i t::·) h)⟩
noncomputable def tB(d:Int->Option ζ)(e:Int->Int->Option ζ)(f:Int->Int->Int->Option ζ):List Int->Option ζ
 |[a]=>d a
 |[a,b]=>e a b
 |[a,b,c]=>f a b c
 |_=>none
variable {hK:Pos}{x y:Int}
section
variable {c:Fr s}
noncomputable abbrev l0:=List ζ->aD->Res ζ
def nv(G:aB)(f:Value)(op:l0):Prop:=∀(s:d8) (c:Fr s) a r ps vs Q E,s.G=G->aL c a r->bV s.G r ps vs->bM c r (Rel s.G) (op ps a) Q E->wpAny s.G.M c.A (call f vs) Q E r.s
def xb(op:l0)(ds:aI):Den:=λa=>(ds a).bind op
theorem rJ(h:fw es=true)(pos:Pos)(env:Env):(backTo pos<|starEach es env).any (·.1)=false:=by rw[nC h];exact vp es env
theorem lE(h:fw (e::es)=true):aff e=true/\es.all aff=true:=by have q:=n4 h;rw[all_cons]at q;exact bf q
theorem aw.XF{x:Str}{id:String}{op:l0}(k:nv s.G (.builtin id) op)(d:bootBuiltins x=some (.builtin id))(h:eb s (e::es) ds)(b:fw (e::es)=true)
 (l:s.G.cJ x=none) (m:s.ai.scope.names.lookup x=some .globalImplicit) (j:(x==("__debug__":Str))=false) (f:x≠"__name__"):aw s (.Call (.Name x np) (e::es) [] hK)<|xb op ds:=λc a r Q E g p=>
 Call_ (jE g l d m j f<|PyProof.Rows.callWith_builtin1 ((h _).then g p λvs aX ps a1 i n bj p=>k _ _ _ _ _ _ _ _ rfl i bj p) (ho (lE b).1 _ _) (by rw[lN (lE b).2,rL];exact vp es c.env))
theorem afu{T:String}(b:fw (e::es)=true)
 (h:wpAny s.G.M A (spliced<|backTo hK<|starEach (e::es) env) (λvs aO=>wpAny s.G.M A (call (.type T) vs) Q E aO) E s'):wpAny s.G.M A (callWith hK (.type T) [] (backTo hK<|starEach (e::es) env) []) Q E s':=by
 have q:=rJ b hK env
 rw[ho (lE b).1]at h q⊢
 exact PySem.callWith_type q<|evalArgs_plain h
theorem H5{r:ax}{v:Value}(g:aL c a r)(b:Rel s.G r p v)(h:view a p=some xs)(d:xs.length<=sizeLine)(j:bM c r (Rel s.G) (.ok (.int xs.length) a) Q E):wpAny s.G.M c.A (call (.builtin "len") [v]) Q E r.s:=by
 refine Θ λk=>?_;obtain⟨x,ws,n,rfl,e,i⟩:=g.view b h;have f:ws.toArray.size=xs.length:=by rw[List.size_toArray,i.len]
 refine k ?_;refine call_len_list (jW e) (by rw[f];rw[sizeLine_eq]at d;exact Int.lt_of_le_of_lt (ofNat_le.mpr d) (by decide:((16777216:Nat):Int)<2^63))<|f▸?_;exact j.uM g<|.int _ _
noncomputable def one{α:Type}:List α->Option α
 |[x]=>some x
 |_=>none
theorem uP{r:ax}(h:one ps=some p)(b:bV G r ps vs):∃v,vs=[v]/\Rel G r p v:=by
 refine Θ λc=>?_
 cases ps with
 |nil=>exact c<|cR h
 |cons q ps=>
  cases ps with
  |cons _ _=>exact c<|cR h
  |nil=>
   obtain rfl:=Φ h
   cases vs with
   |nil=>exact c<|Of b.len
   |cons v vs=>obtain rfl:=length_eq_zero_iff.mp (Nat.succ.inj b.len).symm;exact c ⟨v,rfl,b.head⟩
def a9:l0:=λps a=>.of<|(one ps).bind λp=>(view a p).bind λxs=>if xs.length<=sizeLine then some (.int xs.length,a)else none
theorem Ro:nv G (.builtin "len") a9:=λs c a r ps vs Q E e g b f=>f.of λy d f=>ω d λp i d=>ω d λxs j d=>bY d λh d=>by refine Θ λk=>?_;obtain rfl:=Φ d;obtain⟨v,rfl,bj⟩:=uP i b;exact k<|H5 g bj j h f
theorem bM.YF{r:ax}{v:Value}(h:bM c r (Rel s.G) (.ok p a) Q E)(g:aL c a r)(b:Rel s.G r p v)(k:∀b o,r.h.get? b=some o->κ.get? b=some o):Q v {r.s with heap:=κ,toks:=tk}:=by obtain⟨e,d⟩:=g.grow k (dd<|Nat.le_refl _)<|.inl rfl;exact h v _ e d<|b.mono d.mono
def xg(f:List Int->Option ζ):l0:=λps a=>.of<|(fQ ps).bind λis=>(f is).bind λp=>some (p,a)
theorem nv.ints{h:Value}{n:Int->Option ζ}{q:Int->Int->Option ζ}{w:Int->Int->Int->Option ζ}
 (C:∀(A:Around) (s':Shared) (a:Int) t p Q E,A.handled=none->n a=some p->(∀v κ tk,(∀b o,s'.heap.get? b=some o->κ.get? b=some o)->(∀r,Rel G r p v)->Q v {s' with heap:=κ,toks:=tk})->wpAny G.M A (call h [.int a t]) Q E s')
 (D:∀(A:Around) (s':Shared) (a b:Int) t u p Q E,A.handled=none->q a b=some p->(∀v κ tk,(∀b o,s'.heap.get? b=some o->κ.get? b=some o)->(∀r,Rel G r p v)->Q v {s' with heap:=κ,toks:=tk})->wpAny G.M A (call h [.int a t,.int b u]) Q E s')
 (z:∀(A:Around) (s':Shared) (a b c:Int) t u x p Q E,A.handled=none->w a b c=some p->(∀v κ tk,(∀b o,s'.heap.get? b=some o->κ.get? b=some o)->(∀r,Rel G r p v)->Q v {s' with heap:=κ,toks:=tk})->wpAny G.M A (call h [.int a t,.int b u,.int c x]) Q E s'):
 nv G h (xg<|tB n q w):=λs c a r ps vs Q E e g b m=>m.of λy f m=>ω f λis dH f=>ω f λp dD f=>by
 obtain rfl:=Φ f
 subst e
 obtain⟨cC,l,e⟩:=b.ints dH
 have d:∀v κ tk,(∀b o,r.s.heap.get? b=some o->κ.get? b=some o)->(∀r,Rel s.G r p v)->Q v {r.s with heap:=κ,toks:=tk}:=λv κ tk k B=>m.YF g (B _) k
 cases is with
 |nil=>exact cR dD
 |cons i is=>
  cases is with
  |nil=>obtain⟨t,rfl⟩:=ints1 l e;exact C _ _ _ _ _ _ _ g.ij.handled dD d
  |cons j is=>
   cases is with
   |nil=>obtain⟨t,u,rfl⟩:=ints2 l e;exact D _ _ _ _ _ _ _ _ _ g.ij.handled dD d
   |cons k is=>
    cases is with
    |nil=>obtain⟨t,u,x,rfl⟩:=ints3 l e;exact z _ _ _ _ _ _ _ _ _ _ _ g.ij.handled dD d
    |cons _ _=>exact cR dD
theorem pS{q:Prop}[Decidable q]{v w:Value}(b:∀r,Rel G r (.int x) v)(c:∀r,Rel G r (.int y) w)(r:ax):Rel G r (.int<|if q then x else y)<|if q then v else w:=by
 by_cases h:q
 ·rw[if_pos h,if_pos h];exact b r
 ·rw[if_neg h,if_neg h];exact c r
def r3:l0:=xg<|tB (λx=>none) (λa b=>some<|.int<|if b>a then b else a) λx x x=>none
def uO:l0:=xg<|tB (λx=>none) (λa b=>some<|.int<|if b<a then b else a) λa b c=>some<|.int<|if b<a then(if c<b then c else b)else(if c<a then c else a)
def JD:l0:=xg<|tB (λa=>some<|.int<|if a<0 then-a else a) (λx x=>none) λx x x=>none
theorem Rp:nv G (.builtin "max") r3:=.ints (λx x x x x x x x h x=>nomatch h) (λA s' a b t u p Q E c h k=>by obtain rfl:=Φ h;exact max_two_ints c λκ tk e=>k _ κ tk e<|pS (λx=>.int _ _) λx=>.int _ _) λx x x x x x x x x x x x h x=>nomatch h
theorem Rq:nv G (.builtin "min") uO:=.ints (λy y y y y y y y h y=>cR h) (λA s' a b t u p Q E d h k=>by
 obtain rfl:=Φ h;exact min_two_ints d λκ tk e=>k _ κ tk e<|pS (λy=>.int _ _) λy=>.int _ _) λA s' a b c t u x p Q E d h k=>by
 obtain rfl:=Φ h;exact min_three_ints d λκ tk e=>k _ κ tk e<|pS (pS (λy=>.int _ _) λy=>.int _ _)<|pS (λy=>.int _ _) λy=>.int _ _
theorem Rm:nv G (.builtin "abs") JD:=.ints (λA s' a t p Q E b h k=>by obtain rfl:=Φ h;exact call_abs_int λu tk=>k _ s'.heap tk (λx x e=>e) λx=>.int _ _) (λx x x x x x x x x x h x=>cR h) λx x x x x x x x x x x x h x=>cR h
def kJ(ds:aI):aI:=λa=>(ds a).bind λps a=>.of<|(one ps).bind λp=>(view a p).bind λxs=>if xs.length<=sizeLine then some (xs,a)else none
theorem b2.copy(j:eb s (e::es) ds)(l:fw (e::es)=true)(m:s.G.cJ "list"=none)(o:s.ai.scope.names.lookup ("list":Str)=some .globalImplicit):b2 s (.Call (.Name "list" np) (e::es) [] hK)<|kJ ds:=λc a r Q E g p=>
 Call_ (jE g m (v:=.type "list") (by decide+kernel) o rfl (of_decide_eq_true rfl) (afu l ((j _).qC g p λvs aX ps a1 h z bj p=>p.of λy d p=>ω d λq t d=>ω d λxs u d=>bY d λi d=>by refine Θ λw=>?_;obtain rfl:=Φ d;obtain⟨v,rfl,b⟩:=uP t bj;obtain⟨x,ws,n,rfl,e,f⟩:=h.view b u;refine w ?_;exact call_list_seq x (.inl rfl) e rfl rfl (λκ A k e=>p.new h f k (dd<|Nat.le_refl _) e) (by rw[List.size_toArray,←f.len];exact i))))
noncomputable def uR:List Int->Option (Int×Int×Int)
 |[n]=>some (0,n,1)
 |[a,b]=>some (a,b,1)
 |[a,b,c]=>if c≠0 then if Builtin.divisionGoesByPylong (b-a) c=false then some (a,b,c)else none else none
 |_=>none
def gj(ds:aI):aI:=λa=>(ds a).bind λps a=>.of<|(fQ ps).bind λis=>(uR is).bind λy=>if Builtin.Range.small y.1 y.2.1 y.2.2=true then if 0<=Builtin.Range.rangeSize y.1 y.2.1 y.2.2 then some (bI y.1 y.2.2 (Builtin.Range.rangeSize y.1 y.2.1 y.2.2).toNat,a)else none else none
theorem rU{r:ax}{z:Int}{t u v:Tok}(g:aL c a r)(st:bt b6 r)(l:∀a,b6.T a≠.no->bA b6.h a)(m:Builtin.Range.small x y z=true)(n:0<=Builtin.Range.rangeSize x y z)(p:ny c b6 (.ok (bI x z (Builtin.Range.rangeSize x y z).toNat) a) Q E):
 wpAny s.G.M c.A (pyIter<|.ref r.h.objs.size) Q E {r.s with heap:=r.h.push {cls:=.type "range",data:=.fields #[.int x t,.int y u,.int z v]},toks:=tk}:=by
 obtain⟨d,j⟩:=g.push
 refine wpAny_pyIter_range (IsRange.new ..) m ?_
 refine p _ ⟨{r.s with heap:=(r.h.push {cls:=.type "range",data:=.fields #[.int x t,.int y u,.int z v]}).push {cls:=.type "range_iterator",data:=.fields #[rawInt x,rawInt<|Builtin.Range.rangeSize x y z,rawInt z]},toks:=tk},_,_⟩ ⟨λi h=>IsRangeIter h _ (x+i*z) (((Builtin.Range.rangeSize x y z).toNat:Int)-i) z,⟨{r.s with heap:=r.h.push {cls:=.type "range",data:=.fields #[.int x t,.int y u,.int z v]},toks:=tk},upd r.T r.h.objs.size .no,r.a6⟩,?_,d.base.live,Gj (r:=b6) d (λb bu e=>get?_push_of_some _ e) (dd<|Nat.le_refl (r.h.push {cls:=.type "range",data:=.fields #[.int x t,.int y u,.int z v]}).objs.size) ?_,gO.range x z _,(dd<|Nat.le_refl (r.h.push {cls:=.type "range",data:=.fields #[.int x t,.int y u,.int z v]}).objs.size)⟩
 ·exact st.trans j l g.base.live
 ·have f:((Builtin.Range.rangeSize x y z).toNat:Int)-((0:Nat):Int)=Builtin.Range.rangeSize x y z:=(Int.sub_zero _).trans<|toNat_of_nonneg n;have k:x+((0:Nat):Int)*z=x:=by rw[show((0:Nat):Int)=0 from rfl,Int.zero_mul,Int.add_zero]
  simp only[f,k];exact get?_push_size _ rfl
theorem iJ.range(o:eb s (e::es) ds)(q:fw (e::es)=true)(A:s.G.cJ "range"=none)(B:s.ai.scope.names.lookup ("range":Str)=some .globalImplicit):iJ s (.Call (.Name "range" np) (e::es) [] hK)<|gj ds:=⟨λX X=>rfl,λc a r Q E g p=>
 Call_ (jE g A (v:=.type "range") (by decide+kernel) B rfl (of_decide_eq_true rfl) (afu q ((o _).L7 g p λvs aX ps a1 n h bj p=>p.of λy b p=>ω b λis C b=>ω b λz d b=>bY b λf b=>bY b λm b=>by
  obtain rfl:=Φ b
  obtain⟨cC,l,e⟩:=bj.ints C
  cases is with
  |nil=>exact cR d
  |cons i is=>
   cases is with
   |nil=>cases d;obtain⟨t,rfl⟩:=ints1 l e;exact call_range_1<|rU n h g.base.live f m p
   |cons j is=>
    cases is with
    |nil=>cases d;obtain⟨t,u,rfl⟩:=ints2 l e;exact call_range_2<|rU n h g.base.live f m p
    |cons k is=>
     cases is with
     |nil=>refine bY d λdH d=>bY d λdD d=>?_;obtain⟨t,u,x,rfl⟩:=ints3 l e;refine Θ λw=>?_;obtain rfl:=Φ d;exact w<|call_range_3 dH (rU n h g.base.live f m p)<|.inl dD
     |cons _ _=>exact cR d)))⟩
end
abbrev k1(h:Heap)(C:Addr)(bm:List Value):Prop:=rE h C bm "object.__new__"
structure Cd(h κ:Heap)(x cz C:Addr):Prop where
 made:MadeObj h κ x cz C
 obj:κ.get? x=some {cls:=.ref C,dict:=some cz,data:=.plain}
variable {ae1:List Value}{fI:Addr}
section
variable {w:World}{h:Heap}{g:Array GenState}{d:Drawn}{t:Nat}
variable {C:Addr}
theorem Kn{R:Result->Shared->Prop}{ae1:List Value}{fI:Addr}(k:(Value.ref C::bm).contains (.type "object")=true)(b:k1 h C bm)
 (e:fj h C "__init__"<|some<|.ref fI)
 (f:R (.ok<|.ret<|.ref<|h.objs.size+1) ⟨(h.push {cls:=.type "dict",data:=.dict #[]}).push {cls:=.ref C,dict:=some h.objs.size,data:=.plain},g,d,t,os⟩):
 codeAny (model prog w) A (.builtin "object.__new__" ⟨.ref C::ae1,[]⟩) R ⟨h,g,d,t,os⟩:=by
 refine Θ λj=>?_
 obtain⟨nm,q,N,bs,sn,sub,col,gX,ed,dH,dD,d9,jX,b⟩:=b
 have i:(some (Value.ref fI)!=some (Value.builtin "object.__init__"))=true:=rfl
 refine j<|codeAny_builtin _root_.PySem.F.objNew.entry ?_
 generalize A.under _=A'
 repeat (first|with_reducible refine wpAny_madeHere_exc _root_.PySem.F.objNew.canon b ?_|(with_reducible refine wpAny_madeBy_exc b ?_;(try with_reducible refine cY ?_);try with_reducible refine cV (by rw[bne_self_eq_false];exact Bool.false_ne_true) ?_)|with_reducible refine wpAny_loadPart_at b ?_|(refine fj.use e ?_;(try with_reducible refine cY ?_))|(with_reducible refine υ ?_)|(with_reducible refine cY ?_)|wp_step)
 apply aal
 intro c
 ·cases ae1 with
  |nil=>exact cV Bool.false_ne_true c
  |cons=>refine hO rfl ?_;with_reducible refine υ ?_;with_reducible refine wpAny_madeBy_exc b ?_;with_reducible refine cY ?_;with_reducible refine υ ?_;refine fj.use e ?_;with_reducible refine cY ?_;refine cV (by rw[bne_self_eq_false];exact Bool.false_ne_true) ?_;exact cV (by rw[i];decide) c
 repeat (first|with_reducible refine wpAny_madeHere_exc _root_.PySem.F.objNew.canon b ?_|(with_reducible refine wpAny_madeBy_exc b ?_;(try with_reducible refine cY ?_);try with_reducible refine cV (by rw[bne_self_eq_false];exact Bool.false_ne_true) ?_)|with_reducible refine wpAny_loadPart_at b ?_|(refine fj.use e ?_;(try with_reducible refine cY ?_))|(with_reducible refine υ ?_)|(with_reducible refine cY ?_)|wp_step)
 refine(?_:wpAny _ _ (alloc {cls:=.type "dict",data:=.dict #[]}>>=λx=>pure<|some x) _ _ _)
 refine υ<|wpAny_alloc'<|wpAny_pure ?_
 repeat (first|(with_reducible refine υ ?_)|(with_reducible refine cY ?_)|wp_step)
 refine(?_:R _ _)
 rw[Heap.size_push]
 exact f
theorem Ee{M:Model}{Q:Unit->Shared->Prop}(e:(Value.ref C::bm).contains (.type "object")=true)
 (b:k1 h C bm) (c:Q () ⟨h,g,d,t,os⟩):
 wpAny M A (checkBuiltinCall "object.__new__" ⟨.ref C::ae1,[]⟩) Q E ⟨h,g,d,t,os⟩:=by
 refine Θ λf=>?_
 obtain⟨nm,q,N,bs,sn,sub,col,gX,ed,dH,dD,d9,jX,b⟩:=b
 have F:=_root_.PySem.F.objNew
 refine f ?_
 rw[checkBuiltinCall,F.kind,F.split,F.row]
 repeat (first|refine wpAny_loadPart_at b ?_|(refine wpAny_isSubtype_exc b ?_;(try with_reducible refine cY ?_);rw[e])|refine wpAny_staticBase_exc b ?_|refine wpAny_madeBy_exc b ?_|(with_reducible refine υ ?_)|(with_reducible refine cY ?_)|(with_reducible refine cV (by rw[bne_self_eq_false];exact Bool.false_ne_true) ?_)|wp_step)
 exact c
theorem Hl{l:Obj}{Q:Fin->Shared->Prop}(n:(Value.ref C::bm).contains (.type "object")=true)(f:k1 h C bm)
 (m:∀κ:Heap,(∀b o,h.get? b=some o->κ.get? b=some o)->fj κ C "__init__" (some<|.ref fI)) (p:h.get? fI=some l) (F:l.cls=.type "function")
 (y:∀κ x z,Cd h κ x z C->wpAny (model prog w) A (call (.ref fI)<|.ref x::ae1) (λr s'=>r=.none/\Q (.done<|.ret<|.ref x) s') E ⟨κ,g,d,t,os⟩):
 wpAny (model prog w) A (Builtin.«type.__call__» ⟨.ref C::ae1,[]⟩) Q E ⟨h,g,d,t,os⟩:=by
 refine Θ λG=>?_
 have k:=f
 obtain⟨nm,q,N,bs,sn,sub,col,gX,ed,dH,dD,d9,jX,f⟩:=f
 refine G ?_
 repeat (first|with_reducible refine wpAny_loadPart_at f ?_|with_reducible refine wpAny_madeBy_exc f ?_|(with_reducible refine υ ?_)|(with_reducible refine cY ?_)|wp_step)
 refine codeAny_call_builtin_code (Code.quiet_builtin _ _root_.PySem.F.objNew.quiet)<|Ee n k ?_
 refine Kn n k (m h λX X e=>e)<|(?_:wpAny _ _ _ _ _ _)
 have j:∀b o,h.get? b=some o->((h.push {cls:=.type "dict",data:=.dict #[]}).push {cls:=.ref C,dict:=some h.objs.size,data:=.plain}).get? b=some o:=λb o e=>get?_push_of_some _<|get?_push_of_some _ e
 have s:((h.push {cls:=.type "dict",data:=.dict #[]}).push {cls:=.ref C,dict:=some h.objs.size,data:=.plain}).get? h.objs.size=some {cls:=.type "dict",data:=.dict #[]}:=get?_push_of_some _<|get?_push_at rfl rfl
 have i:((h.push {cls:=.type "dict",data:=.dict #[]}).push {cls:=.ref C,dict:=some h.objs.size,data:=.plain}).get? (h.objs.size+1)=some {cls:=.ref C,dict:=some h.objs.size,data:=.plain}:=by heap_get
 repeat (first|with_reducible refine wpAny_loadPart_at i ?_|(with_reducible refine wpAny_isSubtype_exc (j _ _ f) ?_;(try with_reducible refine cY ?_);rw[(by simp:(Value.ref C::bm).contains (.ref C)=true)])|(with_reducible refine υ ?_)|(with_reducible refine cY ?_)|wp_step)
 refine fj.use (m _ j)<|wpAny_holding<|υ ?_
 refine υ<|wpAny_typeOf ⟨_,j _ _ p,F⟩ ?_
 refine ψ (υ (wpAny_mono (y _ (h.objs.size+1) h.objs.size ⟨⟨j,get?_none_of_le<|le_succ _,get?_none_of_le<|Nat.le_refl _,
  ⟨_,i,rfl,λc=>by simp,.inr ⟨h.objs.size,rfl,ne_of_lt<|lt_succ_self _,Ns1.of_empty ⟨_,#[],_,s,rfl,λe B=>absurd B (by simp),λX=>rfl⟩⟩⟩,
  λo u=>by obtain rfl:=Φ<|i.symm.trans u;rfl,by simp only[Heap.size_push];exact(eB 0x100e9118911800 [_] ι)⟩,i⟩) (λr s' v=>?_) λX X x=>x))
 obtain⟨rfl,D⟩:=v
 refine ψ<|wpAny_ite_false (Eq.refl _)<|ψ ?_
 exact D
theorem Hk{i:Obj}(f:(Value.ref C::bm).contains (.type "object")=true)(c:k1 h C bm)
 (m:∀κ:Heap,(∀b o,h.get? b=some o->κ.get? b=some o)->fj κ C "__init__" (some<|.ref fI)) (k:h.get? fI=some i) (n:i.cls=.type "function")
 (l:∀κ x e,Cd h κ x e C->wpAny (model prog w) (A.under<|.builtin "type.__call__" ⟨.ref C::ae1,[]⟩) (call (.ref fI)<|.ref x::ae1) (λr s'=>r=.none/\Q (.ref x) s') E ⟨κ,g,d,t,os⟩):
 wpAny (model prog w) A (call (.ref C) ae1) Q E ⟨h,g,d,t,os⟩:=by
 refine Θ λp=>?_
 have j:=c
 obtain⟨nm,q,N,bs,sn,sub,col,gX,ed,dH,dD,d9,jX,c⟩:=c
 have u:=tc_lookup
 have v:=tc_bind<|.ref C
 have s:(⟨h,g,d,t,os⟩:Shared).TypeIs (.ref C) "type":=⟨_,c,rfl⟩
 refine p<|wpAny_call<|codeAny_of_tree ?_
 refine(?_:wpAny _ _ (callAny (.ref C) _) _ _ _)
 repeat (any_goals (first|assumption|with_reducible refine wpAny_loadPart_at c ?_|(with_reducible refine υ ?_)|(with_reducible refine cY ?_)|wp_step))
 refine⟨rfl,?_⟩
 exact codeAny_call_builtin_at (Code.quiet_builtin _<|by decide+kernel) entry_typeCall<|wpAny_check_type_call_sub c<|Hl f j m k n λκ x e f=>l κ x e f
theorem MI{prog:Program}{w:World}{A:Around}{s:Shared}{c:Heap}{C:Addr}{bm:List Value}
 {args:List<|Bool×Sem Value} (d:k1 c C bm) (j:args.any (·.1)=false)
 (h:wpAny (model prog w) A (evalArgs (.ref C) true args []) (λe aO=>e.2=[]/\(∀b o,c.get? b=some o->aO.heap.get? b=some o)/\wpAny (model prog w) A (call (.ref C) e.1) Q E aO) E s):
 wpAny (model prog w) A (callWith pos (.ref C) [] args []) Q E s:=by
 refine Θ λl=>?_
 obtain⟨nm,q,N,bs,sn,sub,col,gX,ed,dH,dD,d9,jX,d⟩:=d
 refine l<|υ<|wpAny_holding<|wpAny_mono h (λe aO k=>?_) λy y x=>x
 obtain⟨vs,aA⟩:=e
 obtain⟨rfl,f,g⟩:=k
 have n:=tc_lookup
 have m:(⟨aO.1,aO.2,aO.3,aO.4,aO.5⟩:Shared).TypeIs (.ref C) "type":=⟨_,(f _ _ d),rfl⟩
 refine υ<|wpAny_standAt ?_
 refine(?_:wpAny _ _ (keeperOf (.ref C)>>=_) _ _ _)
 repeat (any_goals (first|assumption|with_reducible refine wpAny_loadPart_at (f _ _ d) ?_|with_reducible refine wpAny_load (f _ _ d) ?_|(with_reducible refine υ ?_)|(with_reducible refine cY ?_)|wp_step))
 exact(by rw[j];rfl:(args.any (λx=>x.fst)||([]:List<|Option Str×Sem Value).any λx=>x.fst.isNone)=false)▸(υ<|wpAny_mono g (λr s' i=>υ<|wpAny_holding<|wpAny_point<|ψ i) λy y x=>x)
end
theorem nQ:∀(ns:List Str) (n:Nat) (x:Str),eO ns (List.replicate n none) x=none
 |[],_,_=>rfl
 |cW::ns,0,_=>rfl
 |cW::ns,n+1,x=>by
  have b:=nQ ns n x
  unfold eO at b⊢
  dsimp only[List.replicate_succ,zip_cons_cons,lookup_cons]
  cases x==cW with
  |true=>rfl
  |false=>exact b
structure w7(G:aB)(c:Nat)(fI:Addr):Prop where
 oL:c≠0
 cls:∃bm,k1 G.s.heap (G.cls c) bm/\(Value.ref (G.cls c)::bm).contains (.type "object")=true
 init:∀h:Heap,(∀a o,G.s.heap.get? a=some o->h.get? a=some o)->fj h (G.cls c) "__init__" (some<|.ref fI)
def newObj(c:Nat):Ξ:=.obj c<|List.replicate (fieldsOf c).length none
def gW(c:Nat)(ci:cn):cn:=λps σ=>(ci (.ref σ.length::ps)<|σ++[newObj c]).bind λp a=>.of<|(jN p).bind λx=>some (.ref σ.length,a)
theorem su.of{r:ax}{o:Option<|ζ×aD}(p:su G r (.of o) Q E)(k:∀x,o=some x->su G r (.ok x.1 x.2) Q E->P):P:=by
 cases o with
 |none=>exact p.elim
 |some x=>exact k x rfl p
theorem sv{l:List α}{x:α}{j:Nat}(h:j≠l.length):(l++[x])[j]?=l[j]?:=by
 refine Θ λb=>?_;rcases Nat.lt_or_ge j l.length with q|q
 ·exact b<|List.getElem?_append_left q
 ·have c:l.length<j:=Nat.lt_of_le_of_ne q<|Ne.symm h;refine b ?_;rw[List.getElem?_eq_none_iff.mpr (by rw[Δ];exact c),List.getElem?_eq_none_iff.mpr q]
theorem v9(G:aB)(r:ax)(n:Nat):All (hy G r) (List.replicate n none)<|List.replicate n none:=⟨by rw[length_replicate,length_replicate],λi y z c b=>by obtain rfl:=List.eq_of_mem_replicate<|List.mem_of_getElem? c;obtain rfl:=List.eq_of_mem_replicate<|List.mem_of_getElem? b;exact⟨rfl,λx x e=>cR e⟩⟩
inductive xu(G:aB)(r:ax)(σ:List Ξ)(κ:Heap)(x:Addr)(c:Nat):Prop
 |mk (r':ax):r'.s={r.s with heap:=κ}->ae0 G r' (σ++[newObj c])->bt r r'->(r'.a6[σ.length]?).map c2.addr=some x->((∀b,r.T b≠.fr)->∀b,r'.T b≠.fr)->xu G r σ κ x c
theorem ae0.made{r:ax}(b:ae0 G r σ){x f:Addr}(O:c≠0)(D:Cd r.h κ x f<|G.cls c):
 xu G r σ κ x c:=by
 refine Θ λS=>?_
 have k:=D.made
 obtain⟨p,B,s,H,M⟩:=k.inst
 have A:=k.dict p B
 have n:f≠x/\κ.Ns1 f λi=>none:=by
  rcases M with⟨F,_⟩|⟨T,P,I,Q⟩
  ·exact Oe<|A.symm.trans F
  ·obtain rfl:=Φ<|P.symm.trans A;exact⟨I,Q⟩
 have u:bA κ x:=⟨p,B⟩
 have t:bA κ f:=n.2.elim λo K=>K.elim λi L=>L.elim λi N=>N.elim λe i=>⟨o,e⟩
 have g:=b.len
 have h:∀b,upd (upd r.T f<|.bO σ.length) x (.bO σ.length) b=r.T b\/(b=x\/b=f)/\upd (upd r.T f<|.bO σ.length) x (.bO σ.length) b=.bO σ.length:=λb=>by
  by_cases q:b=x
  ·exact .inr ⟨.inl q,by rw[q];exact cy⟩
  ·by_cases v:b=f
   ·exact .inr ⟨.inr v,(b7 q).trans<|(v)▸cy⟩
   ·exact .inl<|(b7 q).trans<|b7 v
 have C:vk σ.length r ⟨{r.s with heap:=κ},upd (upd r.T f<|.bO σ.length) x<|.bO σ.length,r.a6++[.obj x<|some f]⟩:=⟨λb i l=>⟨(h b).resolve_right λq=>l.ne<|(λb q=>q.elim (λe=>e▸k.newX) λe=>e▸k.newD:∀b,b=x\/b=f->cx r.h b) b q.1,k.keeps b⟩,λb e=>(h b).elim (·.trans e) (·.2),λy d=>(h y).elim (λq=>.inl<|q.trans<|b.no d) λq=>.inr q.2,λy e=>(h y).elim (λq=>Exists.elim (b.alive (q.symm.trans e) Tag.noConfusion) λo e'=>⟨o,k.keeps y o e'⟩) λq=>q.1.elim (λe=>e▸u) λe=>e▸t,rfl,rfl,λj q=>sv<|g▸q,λy e=>by rw[List.getElem?_eq_none_iff.mpr<|Nat.le_of_eq g]at e;exact cR e⟩
 have w:(r.a6++[c2.obj x<|some f])[σ.length]?=some (.obj x<|some f):=by rw[←g,getElem?_concat_length]
 refine S ?_
 refine⟨_,rfl,b.qy C (λy e=>⟨_,w,(h y).elim (λq=>absurd (b.SG<|q.symm.trans e)<|(g)▸Nat.lt_irrefl _) λq=>q.1.imp id λz=>congrArg some z.symm⟩) (by rw[Δ,Δ,g];rfl) (λj q=>sv q) λro m R E=>?_,C.fi b,congrArg (Option.map c2.addr) w,λJ b q=>(h b).elim (λz=>J b<|z.symm.trans q) λz=>Tag.noConfusion<|z.2.symm.trans q⟩
 obtain rfl:=Φ<|w.symm.trans R
 rw[getElem?_concat_length]at E
 obtain rfl:=Φ E
 exact .obj cy (λd e=>by cases e;exact(b7 n.1).trans cy) ⟨⟨p,B,s,H,A⟩,(Oe),λd e=>by cases e;exact⟨n.1,by rw[funext (nQ _ _)];exact n.2⟩⟩ (v9 _ _ _) (length_replicate ..) ⟨_,D.obj,λq=>(O q).elim,λi ds q=>nomatch q⟩
theorem wt{C:Addr}(b:oi (K+1) A):oi K<|A.under<|.builtin "type.__call__" ⟨.ref C::vs,[]⟩:=⟨b.handled,Nat.le_trans (Nat.le_of_eq (by show A.depth+1+K=A.depth+(K+1);rw[Nat.add_assoc,Nat.add_comm 1])) b.depth,Nat.le_trans (by
 refine(?_:A.units+_+8*K<=A.units+8*(K+1))
 have c:(Code.builtin "type.__call__" ⟨.ref C::vs,[]⟩).cUnits<=8:=le_of_ble_eq_true (by with_unfolding_all rfl)
 revert c
 generalize (Code.builtin "type.__call__" ⟨.ref C::vs,[]⟩).cUnits=u
 intro c
 exact(aV 0x100e9c9118281819c281890100e8180 [_,_,_] ι c)) b.units⟩
theorem wu{C:Addr}{r:ax}(b:ae0 G r σ)(c:∀b,r.T b≠.fr)(d:Frs A r)(st:bt r r'):Frs (A.under<|.builtin "type.__call__" ⟨.ref C::vs,[]⟩) r':=by obtain⟨l,e,f⟩:=d.keep λq t l=>⟨by rw[st.tags b.live q t l];exact t,t.elim (st.keep q) λt=>(c q t).elim⟩;refine⟨l,?_,f⟩;unfold Around.under;dsimp only;refine e▸?_;first|rfl|(simp[pushEnvs,Code.envs,Code.isFrame])
variable {ci:cn}
theorem dG.new(N:w7 G c fI)(F:d3 G K fI ci):dG G (K+1) (.ref<|G.cls c)<|gW c ci:=λA r σ ps vs Q E w B b l D i=>by
 refine Θ λM=>?_
 obtain⟨bm,u,C⟩:=N.cls
 obtain⟨R,fd,J,O,H⟩:=F.fn
 refine M<|Hk (h:=r.s.heap) (g:=r.s.gens) (d:=r.s.drawn) (t:=r.s.toks) (os:=r.s.os) C (u.at_<|b.eW _) (λκ k=>N.init κ λa o e=>k a o<|b.eW a o e) (b.eW _ _ J) H λκ x P I=>?_
 obtain⟨r',es,bj,m,q,s⟩:=b.made N.oL I
 simp only[es.symm]
 unfold gW at i
 refine F.rA _ r' (σ++[newObj c]) (.ref σ.length::ps) (.ref x::vs) _ _ (wt w) (wu b l B m) bj (s l) (.cons (.ref q)<|D.mono m.mono) ?_
 generalize ci (.ref σ.length::ps) (σ++[newObj c])=y at i
 cases y with
 |stuck=>exact i
 |err k a=>exactλv bz b' n l f=>i v bz b' (m.trans n b.live bj.live) l f
 |ok p a=>intro v bz b' n l j;refine su.of i λz hz i=>ω hz λX L hz=>?_;obtain rfl:=Φ hz;replace j:=(hh L)▸j;exact⟨j.lB,i _ bz b' (m.trans n b.live bj.live) l<|.ref<|n.mono.m _ _ q⟩
section
variable {c:Fr s}
theorem rf{M:Model}{f:Value}{Q:Args->Shared->Prop}(b:fw es=true)(h:wpAny M A (spliced<|backTo pos<|starEach es env) (λvs s'=>Q {pos:=vs} s') E s'):wpAny M A (evalArgs f true (backTo pos<|starEach es env) []) Q E s':=by
 cases es with
 |nil=>
  exact υ (wpAny_mono h (λvs s' κ=>by
   refine wP ?_
   first
    |exact wpAny_holding (wP (wP (ψ κ)))
    |exact wpAny_holding (wP (ψ κ))) λy y x=>x)
 |cons e es=>rw[ho (lE b).1]at h⊢;exact Calls.evalArgs_plain h
theorem aw.YD{x:Str}{c:Nat}(N:w7 s.G c fI)(F:dG s.G s.K (.ref<|s.G.cls c) con)(h:s.G.cJ x=some (.ref<|s.G.cls c))(f:eb s es ds)(b:fw es=true)
 (j:s.ai.scope.names.lookup x=some .globalImplicit) (i:(x==("__debug__":Str))=false):aw s (.Call (.Name x np) es [] pos)<|nK con ds:=λc a r Q E g p=>by
 obtain⟨bm,e,_⟩:=N.cls
 refine Call_<|lz g h j i<|MI e (rJ b pos c.env) ?_
 exact rf b<|(f pos).then g p λvs aX ps a1 d k bj p=>⟨rfl,d.base.eW,d.calls F (Nat.le_refl _) bj p⟩
end
section
variable {M:Model}{s:Shared}
inductive Eu(e:Addr)(ig:Obj)(h κ:Heap):Prop
 |mk (T oO cC:_):κ.get? e=some (ig.mapFields (·.setIfInBounds 1 (.ref T)))->h.get? T=none->κ.get? T=some oO->oO.data=.fields cC->oO.cls=.type "traceback"->cC[3]?=some .none->Eu e ig h κ
structure KC(S:List Addr)(e:Addr)(ig:Obj)(h κ:Heap):Prop where
 same:∀b o,h.get? b=some o->b≠e->b∉S->κ.get? b=some o
 slots:∀b o,h.get? b=some o->b≠e->∃du,κ.get? b=some {o with slots:=du}
 exc:Eu e ig h κ
theorem vS{k:Heap}{d:List Env}{L e:Addr}{r:Obj}{vs:Array Value}{head:Value}{F:Bool}{Q:Unit->Shared->Prop}
 (N:A.frames=some (env::d)) (D:s.heap.FunFrames k<|env::d) (I:env.frame=some L) (z:s.heap.get? e=some r) (q:r.data=.fields vs) (c0:1<vs.size)
 (h:∀κ,KC ((env::d).filterMap (·.frame)) e r s.heap κ->Q () {s with heap:=κ}):
 wpAny M A (do let a←frameOf env;let g←entryPlaceOf L F;let b←EntryCells.newEntry head a .none (rawInt L) .none g;setField (.ref e) 1 b) (λX s'=>wpAny M A (setFlight (.ref e) none) Q E s') E s:=by
 have G:e∉(env::d).filterMap (·.frame):=λJ=>by obtain⟨_,o,m,K⟩:=D.mem J;rw[z]at m;injection m with m;subst m;exact K vs q
 refine υ<|wpAny_frameOf_fun N D I λc n=>?_
 refine υ<|wpAny_entryPlaceOf λg B=>?_
 refine υ<|wpAny_newObj_type ?_<|B.sizeOk5 _ _ _ _ _
 have v:=(n.2.1 e G).trans z
 have w:=get?_push_of_some {cls:=.type "traceback",dict:=none,data:=.fields ([head,.ref L,.none,rawInt L,.none]++(if g.isEmpty then List.replicate 6 Value.none else g)).toArray} v
 refine wpAny_setField w q c0 ?_
 have C:=Nat.ne_of_gt<|lt_size v
 have u:=data_mapFields q (·.setIfInBounds 1 (Value.ref c.objs.size))
 have y:=get?_update_self (mapFields (·.setIfInBounds 1 (Value.ref c.objs.size))) w<|isFreed_of_fields u
 have t:=(get?_update_other (c.push {cls:=.type "traceback",dict:=none,data:=.fields ([head,.ref L,.none,rawInt L,.none]++(if g.isEmpty then List.replicate 6 Value.none else g)).toArray}) (mapFields (·.setIfInBounds 1 (Value.ref c.objs.size)))<|Ne.symm C).trans<|get?_push_size c rfl
 refine υ<|wpAny_field y u (x:=.ref c.objs.size) (by simp[c0]) ?_
 dsimp only[if_pos<|show(Value.ref c.objs.size !=Value.none)=true from by simp]
 refine wpAny_setField t rfl (by simp only[List.size_toArray,Δ,length_cons,length_nil]<;>exact(eB 0x101e909118911891189118911808318 [_] ι))<|h _ ?_
 have i:∀b o,b≠e->c.get? b=some o->
  (((c.push {cls:=.type "traceback",dict:=none,data:=.fields ([head,.ref L,.none,rawInt L,.none]++(if g.isEmpty then List.replicate 6 Value.none else g)).toArray}).update e (mapFields (·.setIfInBounds 1 (Value.ref c.objs.size)))).update c.objs.size (mapFields (·.setIfInBounds 3 ((none:Option Addr).elim Value.none λf=>rawInt f)))).get? b=some o:=λb o l j=>by
  have O:=Nat.ne_of_gt<|lt_size j
  rw[get?_update_other _ _ O,get?_update_other _ _<|Ne.symm l]
  exact get?_push_of_some _ j
 refine⟨λb o j l p=>i b o l<|(n.2.1 b p).trans j,λb o j l=>?_,c.objs.size,_,_,?_,?_,get?_update_self _ t<|isFreed_of_fields<|data_mapFields rfl _,data_mapFields rfl _,cls_mapFields _ _,by first|(simp;done)|(rcases B with rfl|⟨_,_,_,_,_,_,_,rfl⟩<;>simp)⟩
 ·obtain⟨du,H⟩:=n.2.2 b o j;exact⟨du,i b _ l H⟩
 ·rw[get?_update_other _ _ C];exact y
 ·exact get?_none_of_le<|(n.1)▸Nat.le_refl _
theorem U7{j:Heap}{f:List Env}{L e:Addr}{r:Obj}{vs:Array Value}{Q:Unit->Shared->Prop}
 (y:A.frames=some (env::f)) (z:s.heap.FunFrames j<|env::f) (p:env.frame=some L) (l:s.heap.get? e=some r) (k:r.data=.fields vs)
 (d:vs[1]?=some .none\/∃(T:Addr) (u:Obj) (cC:Array Value),vs[1]?=some (.ref T)/\T≠e/\s.heap.get? T=some u/\u.data=.fields cC/\cC[3]?=some .none)
 (h:∀g κ,(g=s.heap\/∃T,vs[1]?=some (.ref T)/\T≠e/\g=s.heap.update T (mapFields (·.setIfInBounds 3 .none)))->KC ((env::f).filterMap (·.frame)) e r g κ->Q () {s with heap:=κ}):
 wpAny M A (noteFrame (.ref e) env) (λX s'=>wpAny M A (setFlight (.ref e) none) Q E s') E s:=by
 unfold noteFrame
 refine p▸?_
 rcases d with d|⟨T,u,cC,d,w,n,m,v⟩
 ·refine υ<|wpAny_field l k d ?_;exact vS y z p l k (Array.getElem?_eq_some_iff.mp d).1 λκ x=>h _ κ (.inl rfl) x
 ·refine υ<|wpAny_field l k d ?_;refine υ<|wpAny_field n m v ?_;refine υ<|wpAny_setField n m (Array.getElem?_eq_some_iff.mp v).1 ?_;have i:∀b,b≠T->(s.heap.update T (mapFields (·.setIfInBounds 3 Value.none))).get? b=s.heap.get? b:=λb c=>get?_update_other _ _<|Ne.symm c;have B:∀b o,s.heap.get? b=some o->(∀vs,o.data≠.fields vs)->b≠T:=λb o c t q=>by rw[q,n]at c;injection c with c;subst c;exact t cC m
  exact vS y (z.of_keeps λb o c t=>⟨o,(i b<|B b o c t).trans c,rfl⟩) p ((i e<|Ne.symm w).trans l) k (Array.getElem?_eq_some_iff.mp d).1 λκ x=>h _ κ (.inr ⟨T,d,w,rfl⟩) x
end
section
variable {r:ax}{v:Value}{Q:Unit->Shared->Prop}
theorem vE{r:ax}:∀{l:List Env},(∀env∈l,oZ r env)->FunFrames r.s.heap {} l
 |[],_=>trivial
 |env::l,h=>by have F:=h env<|.head _;obtain⟨m,o,es,f,b,c,_⟩:=F.ns;exact⟨F.kind,⟨env.locals,o,F.frame,rfl,b,λvs q=>Data.noConfusion<|c.symm.trans q⟩,vE λe d=>h e<|.tail _ d⟩
theorem Fi{r:ax}{l:List Env}(h:∀env∈l,oZ r env){b:Addr}(e:b∈l.filterMap (·.frame)):∃env∈l,b=env.locals:=by obtain⟨env,c,d⟩:=List.mem_filterMap.mp e;rw[(h env c).frame]at d;exact⟨env,c,(Φ d).symm⟩
def loose(r:ax)(b:Addr):Prop:=r.T b=.no\/r.T b=.fr
theorem ae0.loose{r':ax}(b:ae0 G r σ)(t:r'.T=r.T)(m:r'.a6=r.a6)(g:r'.s.gens=r.s.gens)(os:r'.s.os=r.s.os)(k:∀b o,¬loose r b->r.h.get? b=some o->r'.h.get? b=some o)(l:∀b o,r.h.get? b=some o->∃bu,r'.h.get? b=some bu/\e5 o bu):ae0 G r' σ/\bt r r':=by have x:Out (Internal.loose r) r r':=⟨λz z=>congrFun t _,λb q o e=>k b o q e,g,os⟩;refine⟨b.chg x (λy q=>⟨λo e=>q.elim (λq=>Tag.noConfusion<|q.symm.trans e) λq=>Tag.noConfusion<|q.symm.trans e,λo e=>(by rw[t]at e;exact q.elim (λq=>Tag.noConfusion<|q.symm.trans e) λq=>Tag.noConfusion<|q.symm.trans e),λi e=>q.elim (λq=>Tag.noConfusion<|q.symm.trans e) λq=>Tag.noConfusion<|q.symm.trans e,λe=>?_,λi e=>(by rw[t]at e;exact q.elim (λq=>Tag.noConfusion<|q.symm.trans e) λq=>Tag.noConfusion<|q.symm.trans e)⟩) m,⟨⟨λa o e=>t▸e,λi y e=>m▸e⟩,λa z o e=>l a o e,λa e z=>t▸e,λa=>by rw[t];exact⟨λe=>⟨e,b.alive e Tag.noConfusion⟩,And.left⟩,λa i e=>t▸e⟩⟩;obtain⟨o,e'⟩:=b.live y (by rw[t]at e;exact e);obtain⟨bu,c,_⟩:=l y o e';exact⟨bu,c⟩
theorem Gm{l:List Env}(pD:A.frames=some (env::l))(O:∀e∈env::l,oZ r e)(b:ae0 G r σ)(Ψ:Flying G k r v)
 (h:∀r',ae0 G r' σ->bt r r'->r'.T=r.T->Flying G k r' v->Q () r'.s):wpAny G.M A (noteFrame v env) (λW s'=>wpAny G.M A (setFlight v none) Q E s') E r.s:=by
 cases Ψ with
 |mk e d ig vs m t y a3 ow w Z g gA hm=>
 have nl:∀{b'},¬loose r b'->b'≠e:=λq z=>q<|z▸Z
 refine U7 pD (vE O) (O env<|.head _).frame y w (g.imp id λ⟨T,p,x⟩=>let⟨D,cC,cp,jt,_,Vb⟩:=x.ex;⟨T,D,cC,p,x.ne,cp,jt,Vb⟩) λS κ h0 N=>?_
 refine Θ λdk=>?_
 have n:∀b' o,b'≠e->r.h.get? b'=some o->∃bu,S.get? b'=some bu/\e5 o bu/\(¬loose r b'\/(∀vs,o.data≠.fields vs)->bu=o):=λb' o j c=>by
  refine Θ λi=>?_;rcases h0 with rfl|⟨T,Va,p,rfl⟩
  ·exact i ⟨o,c,.same,λW=>rfl⟩
  ·by_cases I:b'=T
   ·rcases g with g|⟨bN,d1,x⟩
    ·exact i (nomatch Va.symm.trans g)
    ·obtain rfl:=Value.ref.inj<|Φ<|Va.symm.trans d1;obtain⟨D,cC,tC,M,pc,YL⟩:=x.ex;rw[I]at c;obtain rfl:=Φ<|tC.symm.trans c;refine i ?_;exact⟨_,by rw[I];exact get?_update_self _ tC<|isFreed_of_fields<|data_mapFields M _,.exc _ ⟨⟨_,M⟩,.inl pc⟩ (data_mapFields M _)<|cls_mapFields _ _,λq=>q.elim (λq=>(q<|I▸x.tag).elim) λq=>(q _ M).elim⟩
   ·exact i ⟨o,(get?_update_other _ _<|Ne.symm I).trans c,.same,λW=>rfl⟩
 have Y:∀b' o,r.h.get? b'=some o->b'∈(env::l).filterMap (·.frame)->loose r b'/\∃es u,o.data=.dict es u:=λb' o c j=>by refine Θ λc1=>?_;obtain⟨XT,Lj,rfl⟩:=Fi O j;have F:=O XT Lj;obtain⟨m',bu,es,u,f,s,_⟩:=F.ns;obtain rfl:=Φ<|c.symm.trans f;exact c1 ⟨F.tag,es,u,s⟩
 have B:∀b' o,¬loose r b'->r.h.get? b'=some o->κ.get? b'=some o:=λb' o j c=>by obtain⟨bu,f,_,s⟩:=n b' o (nl j) c;rw[s<|.inl j]at f;exact N.same b' o f (nl j) λK=>j (Y b' o c K).1
 have C:∀b' o,r.h.get? b'=some o->∃bu,κ.get? b'=some bu/\e5 o bu:=λb' o c=>by
  by_cases L:b'=e
  ·rw[L]at c⊢;refine Θ λel=>?_;obtain rfl:=Φ<|y.symm.trans c;obtain⟨T,D,cC,V,_⟩:=N.exc;exact el ⟨_,V,.exc _ ⟨⟨_,w⟩,.inr ⟨_,a3⟩⟩ (data_mapFields w _)<|cls_mapFields _ _⟩
  ·obtain⟨bu,f,p,s⟩:=n b' o L c;refine Θ λi=>?_;by_cases K:b'∈(env::l).filterMap (·.frame)
   ·obtain⟨_,es,u,qm⟩:=Y b' o c K;rw[s<|.inr λvs q=>Data.noConfusion<|qm.symm.trans q]at f;obtain⟨du,bQ⟩:=N.slots _ _ f L;exact i ⟨_,bQ,.slots es u du qm⟩
   ·exact i ⟨bu,N.same _ _ f L K,p⟩
 obtain⟨T,D,cC,V,U,Gg,UW,R,P⟩:=N.exc
 have X:cx r.h T:=by
  refine Θ λJ=>?_
  cases aU:r.h.get? T with
  |none=>exact J aU
  |some o=>
   by_cases H:T=e
   ·rcases h0 with rfl|⟨bN,_,p,rfl⟩
    ·exact J<|cR<|(H▸U).symm.trans y
    ·exact J<|cR<|(H▸U).symm.trans<|(get?_update_other _ _ p).trans y
   ·obtain⟨bu,f,_⟩:=n T o H aU;exact J<|cR<|U.symm.trans f
 have H:T≠e:=λq=>bA.ne ⟨_,q▸y⟩ X
 obtain⟨bX,cw⟩:=b.loose (r':=⟨{r.s with heap:=κ},r.T,r.a6⟩) rfl rfl rfl rfl B C
 have c0:1<vs.size:=by rcases g with g|⟨bN,g,_⟩<;>exact(Array.getElem?_eq_some_iff.mp g).1
 refine dk<|h ⟨{r.s with heap:=κ},r.T,r.a6⟩ bX cw rfl<|.mk e d _ _ m t V ((cls_mapFields _ _).trans a3) ?_ (data_mapFields w _) Z (.inr ⟨T,by rw[Array.getElem?_setIfInBounds_self_of_lt c0],⟨D,cC,Gg,UW,R,P⟩,H,.inl<|b.no X⟩) gA hm
 obtain⟨ff,dC,aec,s1⟩:=ig
 subst w
 exact ow
theorem Nq:AV G:=λA env l r σ k v Q E d c b e h=>by exact υ<|Gm d c b e h
theorem IJ(b:ae0 G r σ)(y:Flying G k r v)(h:∀r',ae0 G r' σ->bt r r'->r'.T=r.T->Flying G k r' v->Q () r'.s):wpAny G.M A (setFlight v none) Q E r.s:=by
 refine Θ λB=>?_
 have D:=y
 cases y with
 |mk e d L vs m t j F M i C n J K=>
 rcases n with n|⟨T,s,x⟩
 ·refine B<|υ<|wpAny_field j i n ?_;exact ψ<|h r b (.refl b.live) rfl D
 ·obtain⟨N,cC,l,c,p,g⟩:=x.ex;refine B<|υ<|wpAny_field j i s ?_;have c0:=(Array.getElem?_eq_some_iff.mp g).1;refine wpAny_setField l c c0 ?_;have f:∀b',b'≠T->(r.h.update T (mapFields (·.setIfInBounds 3 Value.none))).get? b'=r.h.get? b':=λb' H=>get?_update_other _ _<|Ne.symm H;have w:=get?_update_self (mapFields (·.setIfInBounds 3 Value.none)) l<|isFreed_of_fields<|data_mapFields c _
  obtain⟨bX,I⟩:=b.loose (r':=⟨{r.s with heap:=r.h.update T (mapFields (·.setIfInBounds 3 Value.none))},r.T,r.a6⟩) rfl rfl rfl rfl (λb' o q e=>(f b' λz=>q<|z▸x.tag).trans e) λb' o e=>by
   by_cases u:b'=T
   ·rw[u]at e⊢;obtain rfl:=Φ<|l.symm.trans e;exact⟨_,w,.exc _ ⟨⟨_,c⟩,.inl p⟩ (data_mapFields c _)<|cls_mapFields _ _⟩
   ·exact⟨o,(f b' u).trans e,.same⟩
  exact h _ bX I rfl<|.mk e d L vs m t ((f e<|Ne.symm x.ne).trans j) F M i C (.inr ⟨T,s,⟨_,_,w,data_mapFields c _,(cls_mapFields _ _).trans p,by rw[Array.getElem?_setIfInBounds_self_of_lt c0]⟩,x.ne,x.tag⟩) J K
end
inductive iF(h:Heap)(C:Addr)(fI:Addr):Prop
 |mk (nm q N bs sn sub EA col gX ed dH dD d9 jX Dy:_):h.get? C=some (excClassObj nm q C N bs [.type "Exception",.type "BaseException",.type "object"] true sn sub EA col gX ed dH dD d9 jX "Exception.__new__")->h.Ns N Dy->Dy "__init__"=some (.ref fI)->iF h C fI
theorem iF.at_{h:Heap}{C:Addr}(x:iF h C fI)(k:∀a o,h.get? a=some o->κ.get? a=some o):iF κ C fI:=by obtain⟨nm,q,N,bs,sn,sub,EA,col,gX,ed,dH,dD,d9,jX,Dy,c,d,b⟩:=x;exact⟨nm,q,N,bs,sn,sub,EA,col,gX,ed,dH,dD,d9,jX,Dy,k _ _ c,d.at λo e=>k _ _ e,b⟩
section
variable {M:Model}{C:Addr}
inductive oY(h:Heap)(C e:Addr):Prop
 |mk (ig vs:_):h.get? e=some ig->ig.cls=.ref C->ig.data=.fields vs->vs[1]?=some .none->oY h C e
theorem zm{s:Shared}{x:Sem Value}{Q:Flow->Shared->Prop}(j:A.handled=none)(h:wpAny M A x (λv aO=>∃e,v=.ref e/\iF aO.heap C fI/\oY aO.heap C e/\E (.ref e) aO) E s):wpAny M A (raiseStmt env (some x) none) Q E s:=by
 refine υ<|wpAny_mono h (λv aO i=>?_) λy y x=>x;refine Θ λk=>?_;obtain⟨e,rfl,b,c,d⟩:=i;obtain⟨nm,q,N,bs,sn,sub,EA,col,gX,ed,dH,dD,d9,jX,Dy,b,_⟩:=b;obtain⟨n,vs,c,g,l,m⟩:=c;have f:([Value.ref C,.type "Exception",.type "BaseException",.type "object"]:List Value).contains (.type "BaseException")=true:=rfl;refine k ?_;repeat (first|(with_reducible refine wpAny_loadPart_at c ?_;(try with_reducible refine cY ?_);rw[g])|with_reducible refine wpAny_loadPart_at b ?_|(with_reducible refine wpAny_isSubtype_exc b ?_;(try with_reducible refine cY ?_);rw[f])|with_reducible refine wpAny_field c l m ?_|(with_reducible refine υ ?_)|(with_reducible refine cY ?_)|wp_step)
 exact wpAny_raiseNew_none j d
end
variable {DL:ax}
theorem Rel.cut{r rs:ax}(hz:∀a o,r.T a=.z o->rs.T a=.z o)(A:∀i,i<DL.a6.length->rs.a6[i]?=r.a6[i]?){j:Value}(h0:Rel G DL p j):∀{v:Value},Rel G r p v->Rel G rs p v:=by
 have sub:∀{xs:List ζ} {g vs:List Value},xs.length=g.length->(∀(i:Nat) x j,xs[i]?=some x->g[i]?=some j->∀{v:Value},Rel G r x v->Rel G rs x v)->(∀(i:Nat) x v,xs[i]?=some x->vs[i]?=some v->Rel G r x v)->∀(i:Nat) x v,xs[i]?=some x->vs[i]?=some v->Rel G rs x v:=λ{xs g vs} l d k i x v m s=>by have u:=l▸(b8 m).1;exact d i x g[i] m (b3 u)<|k i x v m s
 induction h0 with
 |none=>intro v h;cases h;exact .none
 |bool b=>intro v h;cases h;exact .bool b
 |int i t=>intro v h;cases h;exact .int _ _
 |str k t=>intro v h;cases h;exact .str _ _
 |list _ l _ d=>intro v h;cases h with|list a f k=>exact .list (hz _ _ a) f<|sub l d k
 |arg _ l _ d=>intro v h;cases h with|arg a f k=>exact .arg (λh z=>a h λx o e=>z x o<|hz x o e) f<|sub l d k
 |tup _ l _ d=>intro v h;cases h with|tup a f k=>exact .tup (hz _ _ a) f<|sub l d k
 |inst _ q l _ d=>intro v h;cases h with|inst a w f k=>exact .inst (λh z=>a h λx o e=>z x o<|hz x o e) w f<|sub l d k
 |dJ a q=>intro v h;cases h with|dJ a q=>exact .dJ (hz _ _ a) q
 |ref a=>intro v h;cases h with|ref b=>
  refine .ref ?_;rw[A _ ?_]
  ·exact b
  ·obtain⟨y,q,_⟩:=Option.map_eq_some_iff.mp a;exact(b8 q).1
theorem All.cut{aF:α->hb->Prop}{R S:α->β->Prop}{xs:List α}{ws:List hb}{vs:List β}(h0:All aF xs ws)(h:All R xs vs)(k:∀x w v,aF x w->R x v->S x v):All S xs vs:=⟨h.len,λi x v b c=>h0.at_ b λw z y=>k x w v y<|h.get i x v b c⟩
theorem cT.cut{r rs:ax}{i:Nat}{A:c2}{m:Ξ}(j:rs.h=r.h)(h:∀a,r.T a=.bO i->rs.T a=.bO i)(hz:∀a o,r.T a=.z o->rs.T a=.z o)(z:∀i,i<DL.a6.length->rs.a6[i]?=r.a6[i]?)(s:cT G DL i A m)(x:cT G r i ro m):cT G rs i ro m:=by
 cases x with
 |lst t e k=>cases s with|lst _ _ f=>exact .lst (h _ t) (j▸e)<|f.cut k λx w v a b=>Rel.cut hz z a b
 |obj t F E k l H=>
  refine Θ λD=>?_
  cases s with
  |obj _ _ _ f _ _=>
   have g:=f.cut (S:=hy G rs) k λx w v a b=>⟨b.1,λp u q B=>by obtain⟨y,C⟩:=Option.isSome_iff_exists.mp<|a.1.symm.trans<|congrArg Option.isSome q;exact Rel.cut hz z (a.2 p y q C)<|b.2 p u q B⟩
   exact D<|.obj (h _ t) (λcz e=>h _<|F cz e) (j▸E) g l<|j▸H
structure qa(G:aB)(fI:Addr):Prop where
 cls:iF G.s.heap (G.cls 0) fI
inductive En(G:aB)(k:Nat)(r r':ax)(σ:List Ξ)(x:Addr):Prop
 |mk (bz:ax):bz.s=r'.s->ae0 G bz σ->bt r bz->(∀b,bz.T b≠.fr)->oY bz.h (G.cls 0) x->Flying G k bz (.ref x)->En G k r r' σ x
theorem ae0.Uh{r:ax}{x:Addr}(b:ae0 G r σ)(b':ae0 G r'<|σ++[.obj 0 [some<|.str k,some p]])(st:bt r r')(J:∀b,r'.T b≠.fr)(Ψ:(r'.a6[σ.length]?).map c2.addr=some x):
 En G k r r' σ x:=by
 refine Θ λX=>?_
 obtain⟨ro,L,M,ay⟩:=b'.root (by rw[getElem?_concat_length]) Ψ
 cases ay with
 |@obj a d _ _ vs t p7 K T l qJ=>
 obtain rfl:a=x:=M
 obtain⟨bu,H,Z,_⟩:=qJ
 obtain⟨ds,Q,R⟩:=Z rfl
 obtain⟨o,I,S,jt,oP⟩:=K.ex
 cases I.symm.trans H
 have iu:0<vs.length:=T.len▸succ_pos 1
 have g:=b3 iu
 have V:=T.get 0 _ _ rfl g
 obtain⟨w,v⟩:=Option.isSome_iff_exists.mp V.1.symm
 obtain⟨tt,rfl⟩:=(V.2 _ _ rfl v).tV
 have P:=(px (lq 0) rfl g).trans v
 cases d with
 |none=>exact X<|Oe<|P.symm.trans<|K.no rfl _
 |some j=>
 obtain⟨kp,gA⟩:=K.dict j rfl
 obtain⟨u,es,hD,E,Y⟩:=id gA
 have U:=b'.len
 rw[Δ]at U
 have A:r'.a6.length=σ.length+1:=U
 obtain⟨f,c⟩:∃f:Addr->Tag,∀y,(r'.T y≠.bO σ.length->f y=r'.T y)/\(r'.T y=.bO σ.length->f y=if y=j then .z u else .no):=by refine⟨λy=>open Classical in if r'.T y=.bO σ.length then(if y=j then .z u else .no)else r'.T y,λy=>⟨λq=>if_neg q,λq=>if_pos q⟩⟩
 have hz:∀y o,r'.T y=.z o->f y=.z o:=λy o e=>((c y).1 λq=>Tag.noConfusion<|e.symm.trans q).trans e
 have N:∀y i,i≠σ.length->r'.T y=.bO i->f y=.bO i:=λy i n e=>((c y).1 λq=>n<|by injection e.symm.trans q).trans e
 have s:∀y,r'.T y=.bO σ.length->f y=.z u/\y=j\/f y=.no:=λy q=>by
  refine((c y).2 q)▸?_;by_cases z:y=j
  ·rw[if_pos z];exact .inl ⟨rfl,z⟩
  ·rw[if_neg z];exact .inr rfl
 have O:∀y i,f y=.bO i->r'.T y=.bO i/\i≠σ.length:=λy i e=>by
  by_cases q:r'.T y=.bO σ.length
  ·exact(s y q).elim (λz=>Tag.noConfusion<|z.1.symm.trans e) λz=>Tag.noConfusion<|z.symm.trans e
  ·exact⟨((c y).1 q).symm.trans e,λz=>q<|((c y).1 q).symm.trans<|z▸e⟩
 have B:∀i,i<r.a6.length->(r'.a6.take σ.length)[i]?=r'.a6[i]?:=λi h=>by rw[getElem?_take,if_pos<|b.len▸h]
 refine X ?_
 refine⟨⟨r'.s,f,r'.a6.take σ.length⟩,rfl,⟨λy o e=>hz y o<|b'.i1 y o e,λy o e=>?_,by rw[length_take,A];exact Nat.min_eq_left<|le_succ _,λi ro m g F=>?_,λy q=>?_,b'.gens,b'.os,λy i e=>?_⟩,⟨⟨λy o e=>hz y o<|st.mono.z y o e,λi y e=>?_⟩,st.keep,λy e l=>?_,λy=>⟨λe=>(J y ((st.fr y).mp e).1).elim,λe=>?_⟩,λy i e=>N y i ((λy i e=>ne_of_lt<|b.len▸b.SG e) y i e)<|st.bO y i e⟩,λy e=>?_,⟨bu,ds,I,S,Q,R⟩,.mk a j bu ds (eO (fieldsOf 0) vs) tt I S oP Q (.inl ?_) (.inl R) (λh z=>?_) P⟩
 ·by_cases q:r'.T y=.bO σ.length
  ·rcases s y q with⟨z,rfl⟩|z
   ·cases z.symm.trans e;exact E
   ·exact Tag.noConfusion<|z.symm.trans e
  ·exact b'.fy y o<|((c y).1 q).symm.trans e
 ·have C:i<σ.length:=(b8 F).1;rw[getElem?_take]at g;rw[if_pos C]at g;obtain⟨D,fu⟩:∃D,r.a6[i]?=some D:=⟨_,b3<|b.len▸C⟩;exact cT.cut (r:=r') rfl (λy q=>N y i (ne_of_lt C) q) hz B (b.roots i D m fu F)<|b'.roots i ro m g<|(List.getElem?_append_left C).trans F
 ·by_cases z:r'.T y=.bO σ.length
  ·exact b'.alive z Tag.noConfusion
  ·exact b'.live y λe=>q<|((c y).1 z).trans e
 ·obtain⟨ro,L,M⟩:=b'.lH y i (O y i e).1;exact⟨ro,by rw[getElem?_take,if_pos<|Nat.lt_of_le_of_ne (le_of_lt_succ (A▸(b8 L).1:i<σ.length+1)) (O y i e).2];exact L,M⟩
 ·obtain⟨z,q,_⟩:=Option.map_eq_some_iff.mp e;exact(congrArg (Option.map c2.addr)<|B i (b8 q).1).trans<|st.mono.m i y e
 ·have e':=st.no y e l;exact((c y).1 λq=>Tag.noConfusion<|e'.symm.trans q).trans e'
 ·have g:f y=.fr:=e.1;by_cases z:r'.T y=.bO σ.length
  ·exact(s y z).elim (λq=>Tag.noConfusion<|q.1.symm.trans g) λq=>Tag.noConfusion<|q.symm.trans g
  ·exact(J y<|((c y).1 z).symm.trans g).elim
 ·have e:f y=.fr:=e;by_cases z:r'.T y=.bO σ.length
  ·exact(s y z).elim (λq=>Tag.noConfusion<|q.1.symm.trans e) λq=>Tag.noConfusion<|q.symm.trans e
  ·exact J y<|((c y).1 z).symm.trans e
 ·exact((c a).2 t).trans<|if_neg<|Ne.symm kp
 ·exact⟨u,es,hD,z j u<|((c j).2<|p7 j rfl).trans<|if_pos rfl,Y⟩
theorem ae0.NA{r:ax}(b:ae0 G r σ){x:Addr}{ds:Array Value}(k:∀b o,r.h.get? b=some o->κ.get? b=some o)(s:κ.get? x=some o)(u:o.cls=.ref (G.cls 0))(w:o.dict=none)(t:o.data=.fields ds)(B:ds[1]?=some .none)(d:cx r.h x):
 xu G r σ κ x 0:=by
 have f:=b.len
 have g:∀b,upd r.T x (.bO σ.length) b=r.T b\/b=x/\upd r.T x (.bO σ.length) b=.bO σ.length:=λb=>by
  by_cases q:b=x
  ·exact .inr ⟨q,by rw[q];exact cy⟩
  ·exact .inl<|b7 q
 have C:vk σ.length r ⟨{r.s with heap:=κ},upd r.T x<|.bO σ.length,r.a6++[.obj x none]⟩:=⟨λb i l=>⟨(g b).resolve_right λq=>l.ne<|q.1▸d,k b⟩,λb e=>(g b).elim (·.trans e) (·.2),λy d=>(g y).elim (λq=>.inl<|q.trans<|b.no d) λq=>.inr q.2,λy e=>(g y).elim (λq=>Exists.elim (b.alive (q.symm.trans e) Tag.noConfusion) λo e'=>⟨o,k y o e'⟩) λq=>⟨o,q.1▸s⟩,rfl,rfl,λj q=>sv<|f▸q,λy e=>by rw[List.getElem?_eq_none_iff.mpr<|Nat.le_of_eq f]at e;exact cR e⟩
 have p:(r.a6++[c2.obj x none])[σ.length]?=some (.obj x none):=by rw[←f,getElem?_concat_length]
 refine⟨_,rfl,b.qy C (λy e=>⟨_,p,(g y).elim (λq=>absurd (b.SG<|q.symm.trans e)<|(f)▸Nat.lt_irrefl _) λq=>.inl q.1⟩) (by rw[Δ,Δ,f];rfl) (λj q=>sv q) λro m A h=>?_,C.fi b,congrArg (Option.map c2.addr) p,λv b q=>(g b).elim (λz=>v b<|z.symm.trans q) λz=>Tag.noConfusion<|z.2.symm.trans q⟩
 obtain rfl:=Φ<|p.symm.trans A
 replace h:=getElem?_concat_length▸h
 obtain rfl:=Φ h
 exact .obj cy (λd e=>cR e) ⟨⟨o,s,u,(λc q=>Data.noConfusion<|t.symm.trans q),w⟩,λi n=>nQ _ _ n,λd e=>cR e⟩ (v9 _ _ _) rfl ⟨o,s,λi=>⟨ds,t,B⟩,λq=>(q rfl).elim⟩
def sm(ci:cn):Prop:=∀(σ:List Ξ) k p,∃ρ,ci [.ref σ.length,.str k,p] (σ++[newObj 0])=.ok .none ⟨ρ,σ++[.obj 0 [some<|.str k,some p]]⟩
theorem MH{r:ax}(X:qa G fI)(F:d3 G K fI ci)(I:sm ci)(L:oi (K+1) A)(P:Frs A r)(b:ae0 G r σ)(n:∀b,r.T b≠.fr)(u:bV G r [.str k,p] vs)
 (h:∀e r',ae0 G r' σ->bt r r'->(∀b,r'.T b≠.fr)->oY r'.h (G.cls 0) e->Flying G k r' (.ref e)->Q (.ref e) r'.s):wpAny G.M A (call (.ref<|G.cls 0) vs) Q E r.s:=by
 refine Θ λφ=>?_
 obtain⟨nm,q,ZO,bs,sn,sub,EA,col,gX,ed,dH,dD,d9,jX,Dy,H,S,D⟩:=X.cls
 obtain⟨of,fd,Y,Ln,V⟩:=F.fn
 refine φ ?_
 refine wpAny_call_exc_init (h:=r.s.heap) (g:=r.s.gens) (d:=r.s.drawn) (t:=r.s.toks) (os:=r.s.os) _root_.PySem.F.excBase_Exception (b.eW _ _ H) (S.at λo e=>b.eW _ _ e) D (b.eW _ _ Y) V (λκ x l=>?_) (by rw[←u.len,sizeLine_eq];show(2:Nat)<=_;decide)
 refine Θ λO=>?_
 obtain⟨t0,Z,B,C⟩:=l.there
 obtain⟨r',es,bj,i,s,y⟩:=b.NA l.keeps Z rfl rfl rfl rfl l.new
 have e:=es.symm
 refine O<|e▸?_
 obtain⟨ρ,z⟩:=I σ k p
 refine F.rA _ r' (σ++[newObj 0]) (.ref σ.length::[.str k,p]) (.ref x::vs) _ _ (wt L) (wu b n P i) bj (y n) (.cons (.ref s)<|u.mono i.mono) ?_
 rw[z]
 intro v c7 bX m c j
 refine Θ λM=>?_
 have st:=i.trans m b.live bj.live
 obtain⟨R,J,U,N,f,w,T⟩:=b.Uh bX st c<|m.mono.m _ _ s
 exact M ⟨j.lB,J▸h x R U N f w T⟩
section
variable {c:Fr s}
def afj:List ζ->Option (Nat×ζ)
 |[q,p]=>(w9 q).bind λk=>some (k,p)
 |_=>none
theorem Ax{y:Nat×ζ}(h:afj ps=some y):ps=[.str y.1,y.2]:=by
 cases ps with
 |nil=>exact cR h
 |cons q l=>
 cases l with
 |nil=>exact cR h
 |cons p l=>
 cases l with
 |nil=>refine ω h λk b h=>?_;obtain rfl:=Φ h;rw[o5 b]
 |cons=>exact cR h
def xU(ds:aI):bL:=λa=>(ds a).bind λps a=>match afj ps with
 |some y=>.err y.1 a
 |none=>.stuck
theorem MW{C:Addr}{b:Heap}(c:iF b C fI)(e:fw es=true)
 (h:wpAny s.G.M A (spliced<|backTo pos<|starEach es env) (λvs aO=>(∀a o,b.get? a=some o->aO.heap.get? a=some o)/\wpAny s.G.M A (call (.ref C) vs) Q E aO) E s'):wpAny s.G.M A (callWith pos (.ref C) [] (backTo pos<|starEach es env) []) Q E s':=by
 refine Θ λl=>?_
 obtain⟨nm,q,n,bs,sn,sub,EA,col,gX,ed,dH,dD,d9,jX,Dy,c,_⟩:=c
 have f:=rJ e pos env
 have i:((backTo pos<|starEach es env).any (λx=>x.fst)||([]:List<|Option Str×Sem Value).any λx=>x.fst.isNone)=false:=by rw[f];rfl
 refine l<|υ<|wpAny_holding<|rf e<|wpAny_mono h (λvs aO g=>υ<|wpAny_standAt ?_) λy y x=>x
 obtain⟨j,k⟩:=g
 obtain⟨p,m,d,tk,os⟩:=aO
 refine υ<|wpAny_keeperOf_exc (j _ _ c) ?_
 exact i▸(υ<|wpAny_mono k (λv s h=>υ<|wpAny_holding<|wpAny_point<|ψ h) λy y x=>x)
theorem a4.raise{x:Str}{h:Pos}(X:qa s.G fI)(F:d3 s.G gQ fI ci)(I:sm ci)(n:s.G.cJ x=some (.ref<|s.G.cls 0))(t:gQ+1<=s.K)(m:eb s es ds)(q:fw es=true)
 (A:s.ai.scope.names.lookup x=some .globalImplicit) (u:(x==("__debug__":Str))=false):a4 s (.Raise (some<|.Call (.Name x np) es [] h) none pos)<|xU ds:=λc a r Q E g p=>by
 refine υ<|wpAny_standAt<|zm (C:=s.G.cls 0) (fI:=fI) g.ij.handled ?_
 have f:wpAny s.G.M c.A (eval (.Call (.Name x np) es [] h) c.env) (λv aO=>∃e,v=.ref e/\iF aO.heap (s.G.cls 0) fI/\oY aO.heap (s.G.cls 0) e/\E (.ref e) aO) E r.s:=by
  refine Call_<|lz g n A u<|MW X.cls q ?_
  refine(m h).then g p λvs aX ps a1 d B bj p=>⟨d.base.eW,?_⟩
  refine Θ λo=>?_
  cases i:afj ps with
  |none=>rw[i]at p;exact p.elim
  |some y=>replace p:=i▸p;rw[Ax i]at bj;exact o<|MH (r:=aX.hide) X F I (d.ij.less t) d.mX.hide d.base.hide (λb=>gz) (bj.mono eX) λe r' b' j D l z=>⟨e,rfl,X.cls.at_ b'.eW,l,p _ (r'.back aX) (d.call b' j) (j.back d.base.live)<|z.back j d.base.live⟩
 first
  |exact υ (wpAny_mono f (λv w k=>υ (wpAny_standAt<|ψ k)) λY Y x=>x)
  |(simp only[evalOpt,Option.map];exact υ (wpAny_mono f (λv w k=>υ (wpAny_standAt<|ψ k)) λY Y x=>x))
end
section
variable {w:World}{h:Heap}{g:Array GenState}{d:Drawn}{t:Nat}
variable {C x:Addr}{pL:Str->Option Value}{name:Str}{v:Value}
theorem Fd{M:Model}{c:Value}{Q:Unit->Shared->Prop}(j:bm.contains (.type "BaseException")=true)(b:e3 h C bm)
 (m:h.get? x=some o) (i:o.cls=.ref C) (k:Q () ⟨h,g,d,t,os⟩):wpAny M A (checkBuiltinCall "BaseException.__getattribute__" ⟨[.ref x,c],[]⟩) Q E ⟨h,g,d,t,os⟩:=by
 refine Θ λn=>?_
 obtain⟨⟨nm,q,N,bs,sn,sub,col,gX,ed,dH,dD,d9,jX,b⟩⟩:=b
 have l:builtinKind "BaseException.__getattribute__"=some .slot:=by decide+kernel
 have e:splitId "BaseException.__getattribute__"=some ("BaseException","__getattribute__"):=by decide+kernel
 have f:(Value.ref C::bm).contains (.type "BaseException")=true:=by rw[contains_cons,j];simp
 have p:=_root_.PySem.F.args_bexc_ga (.ref x) c
 refine n ?_
 simp only[checkBuiltinCall,l,e]
 refine υ ?_
 ·unfold isInstance;repeat (first|(with_reducible refine wpAny_loadPart_at m ?_;(try with_reducible refine cY ?_);rw[i])|(with_reducible refine wpAny_isSubtype_exc b ?_;(try with_reducible refine cY ?_);rw[f])|(with_reducible refine υ ?_)|(with_reducible refine cY ?_)|wp_step)
  exact k
set_option tactic.hygienic true in
theorem Fe{tk:Tok}{Q:Fin->Shared->Prop}
 (b:e3 h C bm) (s:fj h C name none) (I:h.Inst x C pL) (e:pL name=some v) (k:Q (.done<|.ret v) ⟨h,g,d,t,os⟩):
 wpAny (model prog w) A (Builtin.«object.__getattribute__» ⟨[.ref x,.str name tk],[]⟩) Q E ⟨h,g,d,t,os⟩:=by
 refine Θ λu=>?_
 obtain⟨⟨nm,q,N,bs,sn,sub,col,gX,ed,dH,dD,d9,jX,b⟩⟩:=b
 obtain⟨o,i,f,r,m⟩:=I
 rcases m with⟨_,j⟩|⟨y,n,z,l⟩
 ·rw[j name]at e;cases e
 refine u ?_
 repeat (first|(with_reducible refine wpAny_loadPart_at i ?_;(try with_reducible refine cY ?_);rw[f])|(with_reducible refine fj.use s ?_)|(with_reducible refine υ ?_)|(with_reducible refine cY ?_)|wp_step)
 split
 ·rename_i c p;exact absurd p<|r c
 repeat (first|(with_reducible refine wpAny_loadPart_at i ?_;(try with_reducible refine cY ?_);rw[f])|with_reducible refine wpAny_loadPart_at b ?_|(with_reducible refine υ ?_)|(with_reducible refine cY ?_)|wp_step)
 refine n▸?_
 repeat (first|(with_reducible refine wpAny_nsGet l.ns ?_;(try with_reducible refine cY ?_);rw[e])|(with_reducible refine υ ?_)|(with_reducible refine cY ?_)|wp_step)
 exact k
theorem IG{b:Bool}(j:bm.contains (.type "BaseException")=true)
 (e:e3 h C bm) (n:fj h C "__getattribute__"<|some<|.builtin "BaseException.__getattribute__") (i:fj h C "__getattr__" none) (p:fj h C name none)
 (I:h.Inst x C pL) (l:pL name=some v) (m:handedOut v=pure v) (k:Q v ⟨h,g,d,t+1,os⟩):
 wpAny (model prog w) A (getAttr (.ref x) name b) Q E ⟨h,g,d,t,os⟩:=by
 refine Θ λq=>?_
 obtain⟨o,f,c,_⟩:=id I
 have s:=_root_.PySem.F.attr_Exception.ga.bind<|.ref x
 have r:(b&&onTheHeap (Value.builtin "BaseException.__getattribute__"))=false:=by cases b<;>rfl
 refine q ?_
 repeat (any_goals (first|assumption|(with_reducible refine wpAny_loadPart_at f ?_;(try with_reducible refine cY ?_);rw[c])|(with_reducible refine fj.use n ?_)|(with_reducible refine fj.use i ?_)|(with_reducible refine υ ?_)|(with_reducible refine cY ?_)|wp_step))
 refine codeAny_call_builtin _root_.PySem.F.attr_Exception.ga.plain _root_.PySem.F.entry_bexc_ga<|Fd j e f c<|Fe e p I l ?_
 refine(?_:wpAny _ _ (handedOut v) _ _ _)
 exact m▸(ψ k)
end
structure B8(G:aB):Prop where
 obj:e3 G.s.heap (G.cls 0) [.type "Exception",.type "BaseException",.type "object"]
 get:∀h:Heap,(∀a o,G.s.heap.get? a=some o->h.get? a=some o)->fj h (G.cls 0) "__getattribute__" (some<|.builtin "BaseException.__getattribute__")
 ga:∀h:Heap,(∀a o,G.s.heap.get? a=some o->h.get? a=some o)->fj h (G.cls 0) "__getattr__" none
 sym:∀h:Heap,(∀a o,G.s.heap.get? a=some o->h.get? a=some o)->fj h (G.cls 0) "symbol" none
section
variable {c:Fr s}
theorem aL.side{r:ax}{n:Str}{v:Option Value}{m:Str->Option Value}(g:aL c a r)(D:n∉s.ai.names)(u:r.h.Ns c.env.locals m)(A:κ.Ns c.env.locals λx=>if x=n then v else m x)(j:SameBut c.env.locals r.h κ):
 aL c a ⟨{r.s with heap:=κ,toks:=tk},r.T,r.a6⟩/\bt r ⟨{r.s with heap:=κ,toks:=tk},r.T,r.a6⟩:=by
 obtain⟨J,B,E⟩:=g.vars.ex
 refine g.put g.vars.tag j (A.elim λo F=>F.elim λl G=>G.elim λl H=>H.elim λe l=>⟨o,e⟩) ⟨g.vars.len,g.vars.tag,_,A,λi f p y C=>?_⟩<|.inl rfl
 obtain⟨w,x,q⟩:=E i f p y C
 refine⟨w,?_,q.mono ⟨λl l e=>e,λl l e=>e⟩⟩
 refine Θ λh=>?_
 cases x with
 |loc a b=>exact h<|.loc a<|(if_neg (λz=>D (z▸List.mem_of_getElem? y):f≠n)).trans<|(TQ u B f).trans b
 |cell a b d t=>obtain⟨o,e,k⟩:=d;refine h ?_;exact .cell a b ⟨o,(j.2 _ λz=>by obtain⟨bu,es,I,e',gX,_⟩:=u;rw[z]at e;obtain rfl:=Φ<|e.symm.trans e';exact Data.noConfusion<|k.symm.trans gX).trans e,k⟩ t
theorem aL.U8{r:ax}{v:Value}{Q:Unit->Shared->Prop}(g:aL c a r)(h0:s.ai.scope.names.lookup (".0":Str)=none)(f:Flying s.G k r v)(h:∀r',aL c a r'->bt r r'->Flying s.G k r' v->Q () r'.s):
 wpAny s.G.M c.A (noteFrame v c.env) (λx s'=>wpAny s.G.M c.A (setFlight v none) Q E s') E r.s:=by
 refine Θ λi=>?_
 obtain⟨l,b⟩:=g.top h0
 obtain⟨j,e',e⟩:=g.mX.hide.ex
 obtain rfl:=Φ<|b.symm.trans e'
 exact i<|Gm (r:=r.hide) b e g.base.hide f.hide λr' b' st x d=>h (r'.back r) (g.call b' st) (st.back g.base.live)<|d.back st g.base.live
theorem aL.P4{r:ax}{v:Value}{Q:Unit->Shared->Prop}(g:aL c a r)(d:Flying s.G k r v)(h:∀r',aL c a r'->bt r r'->Flying s.G k r' v->Q () r'.s):wpAny s.G.M A (setFlight v none) Q E r.s:=IJ (r:=r.hide) g.base.hide d.hide λr' b' st x b=>h (r'.back r) (g.call b' st) (st.back g.base.live)<|b.back st g.base.live
noncomputable def xY(d:bL):bL:=λa=>match d a with
 |.err k a'=>.ok (.ret<|.str k) a'
 |x=>x
theorem a4.try{x n:Str}{hE ap g9 bq:Pos}{d:bL}(X:qa s.G fI)(XL:B8 s.G)(bR:s.G.cJ x=some (.ref<|s.G.cls 0))(hd:gG s body d)
 (Ψ:s.ai.scope.names.lookup x=some .globalImplicit) (L:(x==("__debug__":Str))=false) (au:s.ai.scope.names.lookup n=some .local) (Y:n∉s.ai.names) (vL:(n==("__debug__":Str))=false) (h0:s.ai.scope.names.lookup (".0":Str)=none):
 a4 s (.Try body [.ExceptHandler (some<|.Name x np) (some n) [.Return (some<|.Attribute (.Name n hE) "symbol" ap) g9] bq] [] [] pos) (xY d):=λc a r Q E g p=>by
 have gA:(c.env.scope.kind==.class||(c.env.scope.kind==.module&&c.env.locals !=c.env.globals))=false:=by rw[g.h1];rfl
 have B:=(g.kindOf n).trans au
 refine wpAny_Try_except<|hd c a r _ _ g ?_
 unfold xY at p
 generalize d a=y at p
 cases y with
 |stuck=>exact p
 |ok o a'=>
  intro f r' Z st x
  cases x with
  |next=>exact wpAny_execs_nil<|p _ r' Z st .next
  |ret b=>exact p _ r' Z st<|.ret b
 |err k a'=>
  intro v aX g1 bD rT
  refine g1.U8 h0 rT λj A cw T=>(Θ λel=>?_)
  have hex:=T
  cases hex with
  |mk e T6 ig vs m t he a3 ow yu Tc η yF hm=>
  obtain⟨nm,q,ZO,bs,sn,sub,EA,col,gX,ed,dH,dD,d9,jX,Dy,bE,eI,ah⟩:=X.cls
  refine el ?_
  refine wpAny_handleBy_cons (codeAny_handlers_test ?_) (by intro q;cases q)
  refine Name_function_global g.h1 ((g.kindOf x).trans Ψ) (loadGlobal_global ((g.ok.globals)▸A.base.ns) bR ?_) L
  have hex:wpAny s.G.M (c.A.mark<|some<|.ref e) (excMatches (.ref e)<|.ref<|s.G.cls 0) (λb s=>b=true/\s=j.s) (notedBy s.G.M (c.A.mark<|some<|.ref e) c.env λx ob=>cameBackBy s.G.M c.A c.env E x ob) j.s:=wpAny_excMatches_sub_self (h:=j.s.heap) (g:=j.s.gens) (d:=j.s.drawn) (t:=j.s.toks) (os:=j.s.os) (A.base.eW _ _ bE) he a3 rfl ⟨rfl,rfl⟩
  refine wpAny_mono hex (λb s G=>?_) λW W y=>y
  obtain⟨rfl,rfl⟩:=G
  refine codeAny_handlers_suite_as<|A.P4 T λi O dN I=>?_
  obtain⟨aeU,D,_⟩:=O.vars.ex
  refine wpAny_storeName_local B D (λz w U=>?_) gA
  refine Θ λd6=>?_
  obtain⟨l,kC⟩:=O.side (tk:=i.s.toks) Y D w U
  cases I with
  |mk _ H N zX m' tX S ko X9 C aeC Qa Uz J=>
  have F:e≠c.env.locals:=λq=>by obtain⟨o,es,hD,u,P,_⟩:=D;replace u:=q▸u;obtain rfl:=Φ<|S.symm.trans u;exact Data.noConfusion<|C.symm.trans P
  have V:=(U.2 e F).trans S
  have R:=Uz _ l.base.fy
  refine d6<|wpAny_execs_cons<|wpAny_Return_some ?_
  refine Attribute_name<|wpAny_Name (wpAny_loadName_local g.h1 B w (if_pos rfl) ?_) vL
  have M:z.Inst e (s.G.cls 0) m':=⟨N,V,ko,(λc q=>Data.noConfusion<|C.symm.trans q),.inr ⟨H,X9,λq=>by obtain⟨o,es,hD,u,P,_⟩:=R;replace u:=q▸u;obtain rfl:=Φ<|V.symm.trans u;exact Data.noConfusion<|C.symm.trans P,R⟩⟩
  have Ux:∀z0 tk,wpAny (model dV s.G.w) (c.A.mark<|some<|.ref e) (getAttr (.ref e) "symbol" true) (λv s=>v=.str (strOf k) tX/\s=⟨z,i.s.gens,i.s.drawn,tk+1,i.s.os⟩) z0 ⟨z,i.s.gens,i.s.drawn,tk,i.s.os⟩:=λz0 tk=>IG rfl (XL.obj.at_<|l.base.eW _) (XL.get _ l.base.eW) (XL.ga _ l.base.eW) (XL.sym _ l.base.eW) M J rfl ⟨rfl,rfl⟩
  refine wpAny_mono (Ux _ _) (λv s Rd=>?_) λW W y=>y
  obtain⟨rfl,rfl⟩:=Rd
  refine wpAny_nameGoes_keeps (s:={i.s with heap:=z,toks:=i.s.toks+1+1}) B w gA λcK abV K Ly=>?_
  obtain⟨oM,zH⟩:=l.side (tk:=i.s.toks+1+1+1) Y w K Ly
  exact p _ _ oM (g.fi l (g.fi O (g.fi A (g.fi g1 bD cw) dN) kC) zH)<|.ret<|.str k tX
end
noncomputable def gF(env:Env):List (Str×NameKind)->List (Str×Addr)->List (Str×Addr)
 |[],acc=>acc
 |(n,k)::r,acc=>gF env r (if k==.free then(n,(env.cells.lookup n).getD 0)::acc else acc)
variable {sc:Scope}
theorem sJ(h:∀x∈sc.names,x.2=.free->∃c,env.cells.lookup x.1=some c):closureFor sc env=pure (gF env sc.names []):=by
 dsimp only[closureFor]
 have go:∀(l:List<|Str×NameKind) (acc:List<|Str×Addr),(∀x∈l,x.2=.free->∃c,env.cells.lookup x.1=some c)->
  (forIn l acc λ(x:Str×NameKind) (cs:List<|Str×Addr)=>(if x.2==.free then do let a←cellOf env x.1;pure (ForInStep.yield<|(x.1,a)::cs)else pure (ForInStep.yield cs):Sem<|ForInStep<|List<|Str×Addr))=pure (gF env l acc):=by
  intro l
  induction l with
  |nil=>intro acc _;rfl
  |cons x l e=>
   obtain⟨n,k⟩:=x;intro acc d;simp only[forIn_cons,gF];by_cases f:k=.free
   ·subst f;obtain⟨c,g⟩:=d _ (.head _) rfl;simp only[cellOf,g,beq_self_eq_true,if_true,pure_bind,Option.getD_some];exact e _ λx b=>d x<|.tail _ b
   ·have i:(k==NameKind.free)=false:=by simpa using f
    simp only[i,Bool.false_eq_true,if_false,pure_bind];exact e _ λx b=>d x<|.tail _ b
 have:=go sc.names [] h;simp only[bind_pure];exact this
set_option tactic.hygienic true in
theorem rb{env:Env}:∀{l:List<|Str×NameKind} {acc:List<|Str×Addr},(∀x∈l,x.2=.free->∃c,env.cells.lookup x.1=some c)->(∀n c,acc.lookup n=some c->env.cells.lookup n=some c)->
 ∀n c,(gF env l acc).lookup n=some c->env.cells.lookup n=some c
 |[],_,_,h=>h
 |(g,k)::l,acc,b,h=>λn c=>by
  rw[gF];refine rb (λx j=>b x<|.tail _ j) (λm d=>?_) n c;split
  ·rename_i f;obtain⟨o,i⟩:=b _ (.head _) (by simpa using f);dsimp only[lookup_cons];cases e:m==g with
   |true=>have:=eq_of_beq e;subst this;intro q;rw[i]at q⊢;exact q
   |false=>exact h m d
  ·exact h m d
theorem ra{env:Env}:∀{l:List<|Str×NameKind} {acc:List<|Str×Addr} {n:Str},(acc.lookup n).isSome=true\/(n,NameKind.free)∈l->((gF env l acc).lookup n).isSome=true
 |[],_,_,h=>h.elim id λq=>nomatch q
 |(b,k)::l,acc,n,h=>by
  dsimp only[gF];refine ra ?_;rcases h with h|h
  ·left;split
   ·rw[lookup_cons];cases n==b<;>first|rfl|exact h
   ·exact h
  ·rcases ae6 h with h|h
   ·left;injection h with c d;subst c;subst d;rw[if_pos<|by rfl];simp
   ·exact .inr h
noncomputable def gn(sc b:Scope):Scope:={sc with names:=sc.names.map λ(n,k)=>if(k==.free&&b.kind==.function&&b.names.lookup n==some .cell)then(n,.cell)else(n,k)}
theorem DP{b:Scope}(h:env.scope=b):relabel sc env=gn sc b:=by subst h;rfl
abbrev kM(ai:aeY)(sc:Scope)(ns:List Str):aeY:=⟨gn sc ai.scope,ns⟩
structure mK(ai:aeY)(sc:Scope)(ns:List Str):Prop where
 kind:sc.kind=.function
 zero:((gn sc ai.scope).names.lookup (".0":Str)).isSome=true
 names:∀n∈ns,(sc.names.lookup n=some .local/\(gn sc ai.scope).names.lookup n=some .local)\/(sc.names.lookup n≠some .local/\(gn sc ai.scope).names.lookup n=some .cell/\(n,NameKind.free)∈sc.names/\n∈ai.names)
 free:∀x∈sc.names,x.2=.free->x.1∈ai.names/\ai.scope.names.lookup x.1=some .cell
 Sa:∀x∈sc.names,x.2≠.cell
 loc:∀x∈sc.names,x.2=.local->sc.names.lookup x.1=some .local
 nodup:ns.Nodup
 DF:∀n∈ns,(n==("__classdict__":Str))=false
def pf(ai:aeY)(sc:Scope)(ρ:List<|Option ζ)(n:Str):Option ζ:=if sc.names.lookup n=some .local then none else(fl ai.names n).bind λi=>(ρ[i]?).bind id
theorem rZ:∀{l:List Str} {x:Str},x∈l->∃k,fl l x=some k
 |y::ys,x,h=>by
  unfold fl;by_cases q:(y==x)=true
  ·rw[if_pos q];exact⟨0,rfl⟩
  ·rw[if_neg q];rcases ae6 h with e|e
   ·exact(q<|beq_iff_eq.mpr e.symm).elim
   ·obtain⟨k,e⟩:=rZ e;exact⟨k+1,by rw[e];rfl⟩
section
variable {c:Fr s}
abbrev uC(s:d8)(sc:Scope)(ns:List Str):d8:=⟨s.G,s.K,kM s.ai sc ns⟩
abbrev m5(c:Fr s)(sc:Scope)(ns:List Str)(C:Addr):Fr<|uC s sc ns:=⟨c.A,compEnvC sc (gF c.env sc.names []) C c.env⟩
structure Ot(c:Fr s)(a:aD)(r:ax)(n:Str)(k:Addr)(o:Option ζ):Prop where
 get:c.env.cells.lookup n=some k
 is:∃w,r.h.IsCell k w/\hy s.G r o w
 tag:r.T k=.fr\/r.T k=.no
 val:((fl s.ai.names n).bind λi=>(a.ρ[i]?).bind id)=o
theorem A4{r:ax}(g:aL c a r){n:Str}(l:n∈s.ai.names)(j:s.ai.scope.names.lookup n=some .cell):∃k o,Ot c a r n k o:=by
 refine Θ λh=>?_
 obtain⟨m,_,p⟩:=g.vars.ex
 obtain⟨i,b⟩:=rZ l
 have f:i<a.ρ.length:=by rw[g.vars.len];exact(b8<|fE b).1
 obtain⟨w,v,q⟩:=p i n _ (fE b)<|b3 f
 cases v with
 |loc e _=>refine h ?_;cases e.symm.trans j
 |cell _ e d t=>refine h ?_;exact⟨_,_,e,⟨w,d,q⟩,t.imp id (·.1),by rw[b];show(a.ρ[i]?).bind id=_;rw[b3 f];rfl⟩
theorem uj{r:ax}(g:aL c a r){ns:List Str}(d:mK s.ai sc ns):∀x∈sc.names,x.2=.free->∃k,c.env.cells.lookup x.1=some k:=λx e b=>by refine Θ λf=>?_;obtain⟨k,o,h⟩:=A4 g (d.free x e b).1 (d.free x e b).2;exact f ⟨k,h.get⟩
theorem EU{r:ax}(g:aL c a r){ns:List Str}(d:mK s.ai sc ns){C:Addr}{h:Heap}(z:cx r.h C)(k:∀b o,r.h.get? b=some o->h.get? b=some o)(N:h.Ns C λW=>none):
 aL (m5 c sc ns C) ⟨ns.map<|pf s.ai sc a.ρ,a.σ⟩ ⟨{r.s with heap:=h,toks:=tk},upd r.hide.T C .fr,r.a6⟩/\bt r.hide ⟨{r.s with heap:=h,toks:=tk},upd r.hide.T C .fr,r.a6⟩:=by
 have sub:=rb (acc:=[]) (uj g d) λW W q=>cR q
 have jd:=g.base.hide
 have B:bA h C:=N.elim λo I=>I.elim λW J=>J.elim λW K=>K.elim λe W=>⟨o,e⟩
 have j:=jd.no z
 have x:Out (·=C) r.hide ⟨{r.s with heap:=h,toks:=tk},upd r.hide.T C .fr,r.a6⟩:=⟨λb q=>b7 q,λb W o e=>k b o e,rfl,rfl⟩
 have f:∀b,b=C->t5 r.hide ⟨{r.s with heap:=h,toks:=tk},upd r.hide.T C .fr,r.a6⟩ b:=λb q=>by cases q;exact⟨λo q=>Tag.noConfusion<|j.symm.trans q,λo q=>Tag.noConfusion<|cy.symm.trans q,λo q=>Tag.noConfusion<|j.symm.trans q,λW=>B,λi q=>Tag.noConfusion<|cy.symm.trans q⟩
 have S:=x.mono f rfl
 have bj:=jd.chg x f rfl
 have E:relabel sc c.env=gn sc s.ai.scope:=DP g.ok.scope
 refine⟨⟨g.ij,λq=>?_,⟨E,d.kind,g.ok.globals,g.ok.builtins,d.nodup,d.DF,λn O k t u=>g.ok.apart n O k (sub n k t)<|sub O k u⟩,bj,⟨length_map _,cy,_,N,λi n p v H=>?_⟩,?_⟩,.fresh jd.live x S λb q=>q▸z⟩
 ·exact Bool.noConfusion<|d.zero.symm.trans<|congrArg Option.isSome q
 ·have v:ns[i]?=some n:=v;refine Θ λP=>?_;rw[List.getElem?_map]at H;rw[v]at H;obtain rfl:=Φ H;rcases d.names n (List.mem_of_getElem? v)with⟨t,u⟩|⟨t,u,A,jU⟩
  ·refine P ⟨none,.loc u rfl,?_⟩;delta pf;exact(if_pos t)▸⟨rfl,λx y e=>cR e⟩
  ·obtain⟨y,o,X⟩:=A4 g jU (d.free _ A rfl).2;obtain⟨V,R⟩:=Option.isSome_iff_exists.mp<|ra<|.inr A;obtain rfl:=Φ<|X.get.symm.trans<|sub n V R;obtain⟨w,⟨G,M,qJ⟩,L⟩:=X.is;have D:y≠C:=λq=>bA.ne ⟨_,M⟩<|q▸z;refine P ⟨w,.cell u R ⟨G,k _ _ M,qJ⟩<|.inr ⟨(b7 D).trans<|fv.mpr X.tag.symm,d.zero⟩,?_⟩;have T:pf s.ai sc a.ρ n=o:=by unfold pf;rw[if_neg t];exact X.val
   simp only[T];exact L.mono<|eX.trans S
 ·obtain⟨l,e,A⟩:=g.mX.hide.ex;refine⟨l,e,λenv Z=>?_⟩;refine Θ λY=>(Θ λU=>?_);have F:=A env Z;obtain⟨m,n⟩:=F.ns;have Q:env.locals≠C:=λq=>n.elim λo I=>I.elim λW J=>J.elim λW K=>K.elim λe W=>bA.ne ⟨o,e⟩<|q▸z;exact U<|Y ⟨F.kind,F.frame,⟨m,n.at<|k _⟩,F.tag.imp (b7 Q).trans (b7 Q).trans⟩
end
noncomputable def ec(f:gx)(d:Den):List ζ->aD->Res (List ζ)
 |[],a=>.ok [] a
 |x::xs,a=>(Res.of<|(f x a.ρ).bind λρ=>some ((),⟨ρ,a.σ⟩)).bind λy a=>(ee<|d a).bind λp a=>(ec f d xs a).bind λps a=>.ok (p::ps) a
theorem mH{d:Res α}{k:α->aD->Res β}{b:β}(h:d.bind k=.ok b a)(q:∀x a',d=.ok x a'->k x a'=.ok b a->P):P:=by
 cases d with
 |stuck=>cases h
 |err k a=>cases h
 |ok x a'=>exact q x a' rfl h
theorem JA{d:Res α}{x:α}(h:ee d=.ok x a):d=.ok x a:=by
 cases d with
 |stuck=>cases h
 |err k a=>cases h
 |ok y a'=>exact h
variable {elt:Expr}{aq:Nat}{ifs:List Expr}
section
variable {c:Fr s}
structure Ks(c:Fr s)(dp b6:ax)(it D:Addr)(St:Nat->Heap->Prop)(i:Nat)(a:aD)(r₁:ax)(ps:List ζ)(vs:List Value)(n:Nat):Prop where
 at_:At c dp b6 it St i a r₁
 no:r₁.T D=.no
 acc:r₁.h.get? D=some (bW vs n)
 rel:bV s.G r₁ ps vs
theorem lA{h:Heap}(e:h.get? D=some (bW vs n))(k:c9 h κ D):κ.get? D=some (bW vs n):=by
 refine Θ λb=>?_
 obtain⟨bu,e',q⟩:=k _ e
 cases q with
 |same=>exact b e'
 |slots _ _ _ c=>exact b<|Data.noConfusion c
 |exc _ y _ _=>obtain⟨⟨_,z⟩,_⟩:=y;exact Data.noConfusion z
theorem aL.Sr{r:ax}(g:aL c a r)(d:r.T D=.no)(e:r.h.get? D=some (bW vs n))(k:∀b o,b≠D->r.h.get? b=some o->κ.get? b=some o):aL c a ⟨{r.s with heap:=κ,toks:=tk},r.T,r.a6⟩:=
 g.chg ⟨λx x=>rfl,λb q o e=>k b o q e,rfl,rfl⟩ (λb q=>by cases q;exact⟨λo q=>Tag.noConfusion<|d.symm.trans q,λo q=>Tag.noConfusion<|d.symm.trans q,λi q=>Tag.noConfusion<|d.symm.trans q,λq=>(q d).elim,λi q=>Tag.noConfusion<|d.symm.trans q⟩) rfl λb q=>by cases q;exact⟨d,.inl (jo e).1,(jo e).2⟩
inductive Oq(c:Fr s)(dp b6:ax)(it D:Addr)(St:Nat->Heap->Prop)(f:gx)(d:Den)(xs ps:List ζ)(a':aD)(n:Nat)(s':Shared):Prop
 |mk (i a r₂ tD r5 vs m:_):s'=r₂.s->n=xs.length-i->i<=xs.length->Ks c dp b6 it D St i a r₂ tD vs m->tD.length=i->ec f d (xs.drop i) a=.ok r5 a'->ps=tD++r5->Oq c dp b6 it D St f d xs ps a' n s'
theorem af9{i:Nat}(_:n=n)(b:i<n):n-(i+1)<n-i:=(ck 0x101e3012e291302e29911810 [_,_,_,_] ι (Nat.sub_add_cancel<|aV 0x100e19118001e10 [_,_] ι b)<|Nat.sub_add_cancel<|aV 0x100e1001e10 [_,_] ι b)
theorem afM{R:Result->Shared->Prop}(cL:kd s t f)(u:aw s elt d){r:ax}(I:gO s.G b6 it xs St)(K:xs.length<=sizeLine)
 (ο:∀a,r.T a≠.no->bA r.h a) (g5:Ks c r b6 it D St 0 a r₁ [] [] aq) (gk:cx r.h it) (l9:cx r.h D) (U:D≠it) (p:ec f d xs a=.ok ps a') (Rb:∀v,letOwnedTupleGo t (.ref it) v=pure ())
 (kg:∀vs n r',aL c a' r'->bt r r'->r'.T D=.no->r'.h.get? D=some (bW vs n)->bV s.G r' ps vs->R (.ok .next) r'.s):
 codeAny s.G.M c.A (.compLoop (.ListComp elt [⟨t,iter,[],0⟩] sc pos) 0 (.ref it) (.ref D) c.env) R r₁.s:=by
 refine codeAny_compLoop_tests (Oq c r b6 it D St f d xs ps a') (λn s' ji=>?_) xs.length ⟨0,a,r₁,[],ps,[],aq,rfl,rfl,zero_le _,g5,rfl,p,rfl⟩ Rb
 refine Θ λc1=>(Θ λC=>?_)
 obtain⟨i,a,r₂,tD,r5,vs,m,rfl,au,ah,⟨⟨g,st,G,F,T⟩,N,iD,S⟩,m2,p,P⟩:=ji
 subst au
 have io:=I.fields _ _ T
 cases A:xs[i]? with
 |none=>refine C<|c1 ?_;refine Θ λel=>?_;rw[drop_eq_nil_of_le<|List.getElem?_eq_none_iff.mp A]at p;cases p;rw[append_nil]at P;subst P;exact el<|I.fin i r₂ _ _ _ _ g.ij.handled g.base G T A λκ u=>kg vs m ⟨{r₂.s with heap:=κ},r₂.T,r₂.a6⟩ (g.other F io λb o q e=>u b o q e) (st.other gk λb o q e=>u b o q e) N (u D _ U iD)<|S.mono ⟨λW W e=>e,λW W e=>e⟩
 |some x=>
  have E:=(b8 A).1
  rw[drop_eq_getElem_cons E]at p
  replace p:=((b8 A).2)▸p
  refine C<|c1 ?_
  refine mH p λW a1 z p=>mH p λq a2 ab p=>mH p λLZ h9 bQ p=>(Θ λC=>?_)
  cases p
  cases O:f x a.ρ with
  |none=>rw[O]at z;cases z
  |some fz=>
  replace z:=O▸z
  cases z
  refine C<|I.turn i x r₂ a.σ _ _ _ g.base G T A λv κ tk a8 uB dE=>?_
  have k:∀b o,b≠it->r₂.h.get? b=some o->κ.get? b=some o:=λb o q e=>(dE.2 b q).trans e
  have M:=g.other (tk:=tk) F io k
  have bD:=st.other (tk:=tk) gk k
  refine cL c a ⟨{r₂.s with heap:=κ,toks:=tk},r₂.T,r₂.a6⟩ x v _ _ fz M (a8.mono ⟨λW W e=>e,λW W e=>e⟩) O λct g2 cw=>(ψ ?_)
  refine u c ⟨fz,a.σ⟩ ct _ _ g2<|(JA ab)▸?_
  intro w h g3 dN XG
  have V:=I.fields _ _ uB
  have Q:bA (ax.h ⟨{r₂.s with heap:=κ,toks:=tk},r₂.T,r₂.a6⟩) it:=let⟨o,_,_,e,_⟩:=V.ex;⟨o,e⟩
  have Y:(ax.h ⟨{r₂.s with heap:=κ,toks:=tk},r₂.T,r₂.a6⟩).get? D=some (bW vs m):=k D _ U iD
  have l:=M.fi g2 cw dN
  have Z:=lA Y<|l.keep D N
  have W0:=l.no D N ⟨_,Y⟩
  have J:=l.no it F Q
  have w4:=S.len.symm.trans m2
  refine wpAny_list_append_plain ⟨m,Z⟩ (λL B X=>?_) (by rw[List.size_toArray,w4];exact Nat.le_trans (Nat.le_of_lt E) K)
  obtain⟨H,B⟩:=B
  have jX:∀b o,b≠D->h.h.get? b=some o->L.get? b=some o:=λb o q e=>(X.2 b q).trans e
  have oM:=g3.Sr (tk:=h.s.toks) W0 Z jX
  have Za:=bD.trans l ο M.base.live
  rw[push_toArray]at B
  exact⟨xs.length-(i+1),af9 rfl E,i+1,a2,⟨{h.s with heap:=L,toks:=h.s.toks},h.T,h.a6⟩,tD++[q],LZ,vs++[w],H,rfl,rfl,E,
   ⟨⟨oM,Za.other l9 jX,⟨λb o e=>l.mono.z b o<|G.z b o e,λj y e=>l.mono.m j y<|G.m j y e⟩,J,I.at_ _ _ _ uB<|(X.2 it<|Ne.symm U).trans<|V.kept<|l.keep it F⟩,W0,B,(S.mono (r':=⟨{h.s with heap:=L,toks:=h.s.toks},h.T,h.a6⟩) ⟨λb o e=>l.mono.z b o e,λj y e=>l.mono.m j y e⟩).append<|.cons (XG.mono ⟨λW W e=>e,λW W e=>e⟩) .nil⟩,by rw[Δ,m2];rfl,bQ,by rw[P,bp];rfl⟩
theorem EV{R:Result->Shared->Prop}{d:ax}(I:gO s.G b6 it [] St)(j:Ks c d b6 it D St 0 a r₁ [] [] aq)(k:cx d.h it)(w:D≠it)
 (r:∀vs n r',aL c a r'->bt d r'->r'.T D=.no->r'.h.get? D=some (bW vs n)->bV s.G r' [] vs->R (.ok .next) r'.s):
 codeAny s.G.M c.A (.compLoop (.ListComp elt [⟨t,iter,ifs,0⟩] sc pos) 0 (.ref it) (.ref D) c.env) R r₁.s:=by
 refine codeAny_loop rfl (λn s'=>s'=r₁.s) (λn s' p=>?_) 0 rfl
 subst p
 obtain⟨⟨g,st,v,i,h⟩,l,m,u⟩:=j
 refine(?_:wpAny _ c.A ((compTurn (.ListComp elt [⟨t,iter,ifs,0⟩] sc pos) 0 (.ref it) (.ref D) c.env).onRaise (λx=>do noteFrame x c.env;theTreesLotGoes x)) _ _ r₁.s)
 refine wpAny_noted<|υ<|wpAny_standAt<|υ ?_
 exact I.fin 0 r₁ a.σ _ _ _ g.ij.handled g.base v h rfl λκ f=>ψ<|r [] aq ⟨{r₁.s with heap:=κ},r₁.T,r₁.a6⟩ (g.other i (I.fields _ _ h) λb o q e=>f b o q e) (st.other k λb o q e=>f b o q e) l (f D _ w m)<|u.mono ⟨λy y e=>e,λy y e=>e⟩
end
variable {m':Str->Option Value}
section
variable {c:Fr s}
def ax.pT(r:ax)(it:Addr):ax:=⟨{r.s with heap:=r.h.update it λo=>{o with data:=.freed}},r.T,r.a6⟩
theorem nf{r:ax}{b:Addr}(h:b≠it):(r.pT it).h.get? b=r.h.get? b:=get?_update_ne _ _ _ _ h
theorem n8{r:ax}:cx (r.pT it).h it:=by unfold cx ax.pT ax.h get? Heap.update;simp only[Array.getElem?_modify,if_true];cases r.s.heap.objs[it]?<;>rfl
structure iG(c:Fr s)(r bz:ax)(C D:Addr)(m':Str->Option Value):Prop where
 ne:C≠D
 no:bz.T C=.no
 fr:∀l,c.A.frames=some l->∀env∈l,env.locals≠C
 ns:bz.h.Ns C m'
 dead:cx r.h C
theorem Gl{h:Heap}{a:Addr}{m:Str->Option Value}(n:h.Ns a m):∀w,¬h.IsCell a w:=λw ⟨o,e,d⟩=>by obtain⟨bu,es,c,e',b,_⟩:=n;obtain rfl:=Φ<|e.symm.trans e';exact Data.noConfusion<|d.symm.trans b
theorem iG.go{r:ax}{C:Addr}(x:iG c r bz C D m')(g:aL c a bz)(st:bt r bz)(f:SameBut C bz.h κ):aL c a ⟨{bz.s with heap:=κ,toks:=tk},bz.T,bz.a6⟩/\bt r ⟨{bz.s with heap:=κ,toks:=tk},bz.T,bz.a6⟩:=
 have k:∀b o,b≠C->bz.h.get? b=some o->κ.get? b=some o:=λb o q e=>(f.2 b q).trans e
 ⟨g.chg ⟨λy y=>rfl,λb q o e=>k b o q e,rfl,rfl⟩ (λb q=>by cases q;have d:=x.no;exact⟨λo q=>Tag.noConfusion<|d.symm.trans q,λo q=>Tag.noConfusion<|d.symm.trans q,λi q=>Tag.noConfusion<|d.symm.trans q,λq=>(q d).elim,λi q=>Tag.noConfusion<|d.symm.trans q⟩) rfl λb q=>by cases q;exact⟨x.no,.inr x.fr,Gl x.ns⟩,st.other x.dead k⟩
theorem iG.later{r b:ax}{C:Addr}(x:iG c r bz C D m')(st:bt bz b):iG c r b C D m':=⟨x.ne,st.no C x.no<|x.ns.elim λo d=>d.elim λy f=>f.elim λy g=>g.elim λe y=>⟨o,e⟩,x.fr,(st.keep C x.no).ns x.ns,x.dead⟩
theorem bt.M9(st:bt DL r')(c:∀b,DL.T b≠.fr):bt DL r'.hide:=⟨st.mono.trans eX,st.keep,λa e l=>fv.mpr<|.inl<|st.no a e l,λa=>⟨λe=>(c a e).elim,λe=>(gz e.1).elim⟩,λa i e=>pE.mpr<|st.bO a i e⟩
theorem xP{ns:List Str}{it:Addr}{St:Nat->Heap->Prop}{r r₁ r':ax}{E:Value->Shared->Prop}{U:Value->Addr->Result->Shared->Prop}
 (x:∀a,r.T a≠.no->bA r.h a) (ok:mK s.ai sc ns) (I:gO s.G r₁ it xs St) (F:bt r r₁) (K:∀a,r₁.T a≠.no->bA r₁.h a) (g:At c r₁ r₁ it St 0 a r') (gk:cx r₁.h it)
 (loop:∀(w ct:ax) (D C:Addr) (R:Result->Shared->Prop) (Yz:Nat),(∀a,w.T a≠.no->bA w.h a)->Ks (m5 c sc ns C) w r₁ it D St 0 ⟨ns.map<|pf s.ai sc a.ρ,a.σ⟩ ct [] [] Yz->cx w.h it->cx w.h D->D≠it->(∀fz vs n bz,aL (m5 c sc ns C) ⟨fz,σ'⟩ bz->bt w bz->bz.T D=.no->bz.h.get? D=some (bW vs n)->bV s.G bz ps vs->R (.ok .next) bz.s)->codeAny s.G.M c.A (.compLoop (.ListComp elt [⟨t,iter,ifs,0⟩] sc pos) 0 (.ref it) (.ref D) (m5 c sc ns C).env) R ct.s)
 (V:∀D C vs n m' bz,aL c ⟨a.ρ,σ'⟩ bz->bt r bz->bz.T D=.no->bz.h.get? D=some (bW vs n)->bV s.G bz ps vs->cx r.h D->iG c r bz C D m'->U (.ref D) C (.ok .next) bz.s):
 wpAny s.G.M c.A (newList []) (λacc H=>wpAny s.G.M c.A (newFunctionEnv sc c.env.globals (gF c.env sc.names []) [] c.env.qual none .none<|some c.env) (λPq Zd=>codeAny s.G.M c.A (.compStart (.ListComp elt [⟨t,iter,ifs,0⟩] sc pos) 0 (.ref it) acc {Pq with scope:=relabel sc c.env}) (U acc Pq.locals) Zd) E H) E r'.s:=by
 refine wpAny_newObj_type<|wpAny_newFunctionEnv ok.Sa (by intro y ar;simp at ar) (λM yG P=>?_) ok.kind
 dsimp only at yG P⊢
 generalize S:r'.s.heap.push {cls:=.type "list",dict:=none,data:=.seq ([]:List Value).toArray}=m at yG P⊢
 have Z:m.objs.size=r'.h.objs.size+1:=by rw[←S,Heap.size_push]
 have Q:r'.h.objs.size≠m.objs.size:=by rw[Z];exact ne_of_lt<|lt_succ_self _
 have X5:M.get? r'.h.objs.size=some (bW [] 0):=P.extBut _ _ Q<|get?_push_of_some _<|S▸get?_push_size _ rfl
 have B:cx r'.h m.objs.size:=dd<|(Z)▸le_succ _
 have G:cx r'.h r'.h.objs.size:=dd<|Nat.le_refl _
 have io:=I.fields _ _ g.5
 obtain⟨YI,_,_,A,_⟩:=io.ex
 have J:bA r'.h it:=⟨YI,A⟩
 have T:it≠m.objs.size:=λq=>J.ne<|q▸B
 have L:r'.h.objs.size≠it:=λq=>J.ne<|q▸G
 have p:aL c a<|r'.pT it:=g.1.other g.4 io λb o q e=>(nf q).trans e
 have v:bt r₁<|r'.pT it:=g.2.other gk λb o q e=>(nf q).trans e
 have f:∀b,cx r'.h b->b≠it->cx (r'.pT it).h b:=λb h q=>(nf q).trans h
 have k:∀b o,r'.h.get? b=some o->M.get? b=some o:=λb o e=>P.extBut b o (by rw[Z];exact ne_of_lt<|lt_succ_of_lt<|lt_size e)<|get?_push_of_some _<|S▸get?_push_of_some _ e
 have LM:∀H:Shared,H={r'.s with heap:=M,toks:=r'.s.toks+([]:List<|Str×Value).length}->
  codeAny s.G.M c.A (.compLoop (.ListComp elt [⟨t,iter,ifs,0⟩] sc pos) 0 (.ref it) (.ref r'.h.objs.size) (m5 c sc ns m.objs.size).env) (U (.ref r'.h.objs.size) m.objs.size) H:=by
  rintro H rfl
  obtain⟨Y,u⟩:=EU (tk:=r'.s.toks+([]:List<|Str×Value).length) g.1 ok B k yG
  have u:bt (r'.pT it).hide ⟨{r'.s with heap:=M,toks:=r'.s.toks+([]:List<|Str×Value).length},upd r'.hide.T m.objs.size .fr,r'.a6⟩:=⟨⟨u.mono.z,u.mono.m⟩,λb e=>.of λo q=>by
   by_cases z:b=it
   ·exact bA.ne ⟨o,z▸q⟩ n8
   ·exact k b o<|(nf z).symm.trans q,λb e l=>by
   obtain⟨o,q⟩:=l;by_cases z:b=it
   ·exact bA.ne ⟨o,z▸q⟩ n8
   ·exact u.no b e ⟨o,(nf z).symm.trans q⟩,λb=>⟨λe=>(gz e).elim,λ⟨e,o,q⟩=>by
   by_cases z:b=it
   ·exact bA.ne ⟨o,z▸q⟩ n8
   ·exact(u.fr b).mpr ⟨e,o,(nf z).symm.trans q⟩⟩,u.bO⟩
  have W2:∀b,b≠m.objs.size->r'.T b=.no->upd r'.hide.T m.objs.size .fr b=.no:=λb q e=>(b7 q).trans<|fv.mpr<|.inl e
  refine loop (r'.pT it).hide _ _ _ _ 0 p.base.hide.live ⟨⟨Y,u,⟨λb o e=>u.mono.z b o<|v.mono.z b o e|>s7.mpr,λj y e=>v.mono.m j y e⟩,W2 it T g.4,I.at_ _ _ _ g.5<|(A)▸k _ _ A⟩,W2 _ Q<|g.1.base.no G,X5,.nil⟩ n8 (f _ G L) L λaeL vs n O ge Vh hH iD b4=>(Θ λd6=>?_)
  have d7:∀b,(r'.pT it).hide.T b≠.fr:=λb=>gz
  have qZ:=Vh.M9 d7
  have Y1:=(F.trans v x K).trans (qZ.back p.base.live) x p.base.live
  obtain⟨Jx,X,_⟩:=ge.vars.ex
  have fZ:∀b,cx r'.h b->b≠it->O.hide.T b=.no->(O.hide.back<|r'.pT it).T b=.no:=λb d q e=>by refine(?_:gv (r'.T b) _=_);rw[g.1.base.no d];exact e
  have dl:∀b,cx r'.h b->b≠it->cx r.h b:=λb d q=>kY b (λl=>by
   cases N:r.T b with
   |no=>exact(((F.trans v x K).keep b N).live l).ne<|f b d q
   |z o=>exact(p.base.live b λe=>Tag.noConfusion<|((F.trans v x K).mono.z b o N).symm.trans e).ne<|f b d q
   |bO i=>exact(p.base.live b λe=>Tag.noConfusion<|((F.trans v x K).bO b i N).symm.trans e).ne<|f b d q
   |fr=>exact(p.base.live b λe=>Tag.noConfusion<|(((F.trans v x K).fr b).mp N).1.symm.trans e).ne<|f b d q) id
  refine d6<|V _ _ vs n Jx (O.hide.back<|r'.pT it) (p.call (r':=O.hide) ge.base.hide qZ) Y1 (fZ _ G L<|fv.mpr<|.inl hH) iD (b4.mono<|eX.trans (l6 qZ p.base.live).2) (dl _ G L) ⟨Ne.symm Q,fZ _ B (Ne.symm T)<|fv.mpr<|.inr ge.vars.tag,λl e env hm q=>?_,X,dl _ B<|Ne.symm T⟩
  obtain⟨cO,e',e0⟩:=g.1.mX.ex
  obtain rfl:=Φ<|e.symm.trans e'
  obtain⟨m',bu,_,_,bQ,_⟩:=(e0 env hm).ns
  rw[q]at bQ
  exact bA.ne ⟨_,bQ⟩ B
 refine codeAny_compStart_list (LM _ rfl)<|I.again 0 c.A _ _ _ (I.at_ _ _ _ g.5<|(A)▸k _ _ A) ?_
 exact LM _ rfl
end
section
variable {c:Fr s}
def sM(ai:aeY)(sc:Scope)(ns:List Str)(f:gx)(d:Den)(iC:aI):aI:=λa=>(iC a).bind λxs a1=>if xs.length<=sizeLine then(ee<|ec f d xs ⟨ns.map<|pf ai sc a1.ρ,a1.σ⟩).bind λps a2=>.ok ps ⟨a1.ρ,a2.σ⟩else .stuck
def mT(iC:aI):aI:=λa=>(iC a).bind λxs a=>.of<|(one<|xs.length::xs.map λx=>0).bind λx=>some ([],a)
structure fq(s:d8)(elt t iter:Expr)(ifs:List Expr)(sc:Scope)(pos:Pos)(dl:aI):Prop where
 fold:∀env x,foldedSetIterable iter env x=pure x
 rA:∀(c:Fr s) a r (Q:Value->Shared->Prop) E use,aL c a r->(match dl a with
  |.stuck=>False
  |.err k a'=>∀v r',aL c a' r'->bt r r'->Flying s.G k r' v->E v r'.s
  |.ok ps a'=>∀D C m' bz,aL c a' bz->bt r bz->o2 s.G r bz ps (.ref D:_)->iG c r bz C D m'->compPost s.G.M c.A E use Q (.ref D:_) C (.ok .next) bz.s)->
 wpAny s.G.M c.A (comprehension (.ListComp elt [⟨t,iter,ifs,0⟩] sc pos) sc c.env (firstIterPos [⟨t,iter,ifs,0⟩] pos) (newList []) false (eval iter c.env) use) Q E r.s
theorem fq.of{ns:List Str}(ok:mK s.ai sc ns)(h:iJ s iter iC)(z:kd (uC s sc ns) t f)(K:aw (uC s sc ns) elt d)
 (o:∀it v,letOwnedTupleGo t (.ref it) v=pure ()):fq s elt t iter [] sc pos<|sM s.ai sc ns f d iC:=⟨h.1,λc a r Q E use g p=>by
 refine wpAny_comprehension_free rfl (h.1 _) (sJ<|uj g ok) ok.kind ok.loc<|h.2 c a r _ _ g ?_
 unfold sM at p
 generalize iC a=y at p
 cases y with
 |stuck=>exact p
 |err k a'=>exact p
 |ok xs a1=>
  intro it aX I
  change (match(if xs.length<=sizeLine then(ee<|ec f d xs ⟨ns.map<|pf s.ai sc a1.ρ,a1.σ⟩).bind λps a2=>.ok ps ⟨a1.ρ,a2.σ⟩else .stuck)with
   |.stuck=>False
   |.err k a'=>∀v r',aL c a' r'->bt r r'->Flying s.G k r' v->E v r'.s
   |.ok ps a'=>∀D C m' bz,aL c a' bz->bt r bz->o2 s.G r bz ps (.ref D)->iG c r bz C D m'->compPost s.G.M c.A E use Q (.ref D) C (.ok .next) bz.s)at p
  refine Θ λB=>?_;by_cases e:xs.length<=sizeLine
  ·rw[if_pos e]at p;cases b:ec f d xs ⟨ns.map<|pf s.ai sc a1.ρ,a1.σ⟩with
   |stuck=>rw[b]at p;exact p.elim
   |err k a'=>rw[b]at p;exact p.elim
   |ok ps a2=>replace p:=b▸p;obtain⟨St,r₁,w,O,F,I,H⟩:=I;exact B<|xP g.base.live ok I w O F H (λT S D C R P q i l N m M=>afM z K I e q i l N m b (o it) λvs n bz=>M a2.ρ vs n bz) λD C vs n m' bz A st J L u G j=>p D C m' bz A st ⟨D,vs,n,rfl,G,J,L,u⟩ j
  ·rw[if_neg e]at p;exact p.elim⟩
theorem afO{y:Nat}(h:one (xs.length::xs.map λx=>0)=some y):xs=[]:=by
 cases xs with
 |nil=>rfl
 |cons=>exact cR h
theorem fq.of0(ok:mK s.ai sc [])(b:iJ s iter iC):fq s elt t iter ifs sc pos<|mT iC:=⟨b.1,λc a r Q E use g p=>by
 refine wpAny_comprehension_free rfl (b.1 _) (sJ<|uj g ok) ok.kind ok.loc<|b.2 c a r _ _ g ?_
 unfold mT at p
 generalize iC a=y at p
 cases y with
 |stuck=>exact p
 |err k a'=>exact p
 |ok xs a1=>
  intro it aX I
  refine Θ λo=>?_
  cases e:one (xs.length::xs.map λx=>0)with
  |none=>simp only[Res.bind,e]at p;exact p.elim
  |some y=>obtain rfl:=afO e;obtain⟨St,r₁,l,F,q,I,w⟩:=I;refine o ?_;exact xP g.base.live ok I l F q w (λK J D C R H G d h L i B=>EV I d h i λvs n bz=>B _ vs n bz) λD C vs n m' bz m st z A j u f=>p D C m' bz m st ⟨D,vs,n,rfl,u,z,A,j⟩ f⟩
theorem fq.toN{dl:aI}(h:fq s elt t iter ifs sc pos dl):b2 s (.ListComp elt [⟨t,iter,ifs,0⟩] sc pos) dl:=λc a r Q E g p=>by
 refine h.rA c a r Q E none g ?_
 generalize dl a=y at p
 cases y with
 |stuck=>exact p
 |err k a'=>exact p
 |ok ps a'=>intro D C m' bz w st j b;refine⟨m',b.ns,λκ d=>?_⟩;refine Θ λl=>?_;obtain⟨m,i⟩:=b.go (tk:=bz.s.toks) w st d;obtain⟨z,vs,n,e,o,q,u,f⟩:=j;obtain rfl:=Value.ref.inj e;exact l<|p _ ⟨{bz.s with heap:=κ},bz.T,bz.a6⟩ m i ⟨D,vs,n,rfl,o,q,(d.2 D<|Ne.symm b.ne).trans u,f.mono ⟨λx x e=>e,λx x e=>e⟩⟩
def nL(b:Bool)(i:Nat)(dl:aI):bL:=λa=>(if b then GB (dl a)else yg<|dl a).bind λp a=>.ok .next ⟨a.ρ.set i<|some p,a.σ⟩
inductive Es(c:Fr s)(r r':ax)(D:Addr)(x:Res ζ):Prop
 |mk (e8 p h9:_):x=.ok p h9->e8.s=r'.s->aL c h9 e8->bt r e8->Rel s.G e8 p (.ref D)->(∀y,y≠D->r'.T y=.no->e8.T y=.no)->Es c r r' D x
theorem aL.Ni{r:ax}(g:aL c a r')(v:∀a,r.T a≠.no->bA r.h a)(st:bt r r')(z:o2 s.G r r' xs<|.ref D)(b:Bool):Es c r r' D<|if b then GB (.ok xs a)else yg<|.ok xs a:=by
 refine Θ λw=>?_
 obtain⟨B,vs,n,e,u,h,d,m⟩:=z
 obtain rfl:=Value.ref.inj e
 have j:=jo d
 cases b with
 |false=>have f:=sU (o:=bW vs n) h;obtain⟨p,k⟩:=g.give h ⟨_,d⟩ j.1 j.2 f (λo e=>by injection e with e;exact e▸d) (λi e=>nomatch e) (λl l e=>e) g.base.len λl l l A x=>.inl ⟨A,x⟩;have t:=m.mono f;exact w ⟨⟨r'.s,upd r'.T D<|.z<|bW vs n,r'.a6⟩,_,_,rfl,rfl,p,k r st u v,.list cy t.len t.get,λy q e=>(b7 q).trans e⟩
 |true=>have f:=ql (i:=a.σ.length) (ro:=.lst D) h;obtain⟨p,k⟩:=g.give h ⟨_,d⟩ j.1 j.2 f (λo e=>nomatch e) (λi e=>by cases e;exact⟨.lst D,by rw[←g.base.len,getElem?_concat_length],rfl⟩) (λi ro e=>(List.getElem?_append_left (b8 e).1).trans e) (mf (P:=cT s.G ⟨r'.s,upd r'.T D<|.bO a.σ.length,r'.a6++[.lst D]⟩) g.base.len<|.lst cy d<|m.mono f).1 (mf g.base.len<|.lst cy d<|m.mono f).2;refine w ?_;exact⟨⟨r'.s,upd r'.T D<|.bO a.σ.length,r'.a6++[.lst D]⟩,_,_,rfl,rfl,p,k r st u v,.ref (by show((r'.a6++[c2.lst D])[a.σ.length]?).map c2.addr=_;rw[←g.base.len,getElem?_concat_length];rfl),λy q e=>(b7 q).trans e⟩
theorem iG.with{r b:ax}{C:Addr}(x:iG c r bz C D m')(e:b.s=bz.s)(t:∀y,y≠D->bz.T y=.no->b.T y=.no):iG c r b C D m':=⟨x.ne,t C x.ne x.no,x.fr,by unfold ax.h;rw[e];exact x.ns,x.dead⟩
theorem a4.comp{x:Str}{dl:aI}{i:Nat}(b:Bool)(h:fq s elt t iter ifs sc hK dl)(q:s.ai.names[i]?=some x)(H:HE s.ai x)
 (u:∀env,env.scope=s.ai.scope->swapsWith (.ListComp elt [⟨t,iter,ifs,0⟩] sc hK) (some<|.Name x i5) pos.line env=pure true):a4 s (.Assign [.Name x i5] (.ListComp elt [⟨t,iter,ifs,0⟩] sc hK) pos)<|nL b i dl:=λc a r Q E g p=>by
 refine(exec_Assign_Name_used _ _ _ _<|u _ g.ok.scope)▸(υ<|wpAny_standAt<|υ ?_)
 refine(?_:wpAny _ c.A (do let _←comprehension (.ListComp elt [⟨t,iter,ifs,0⟩] sc hK) sc c.env _ (newList []) false (eval iter c.env) (some<|PySem.assign (.Name x i5) c.env)) _ _ r.s)
 refine υ<|wpAny_mono (h.rA c a r (λX s'=>Q .next s') E (some<|PySem.assign (.Name x i5) c.env) g ?_) (λX s' n=>ψ<|ψ n) λX X e=>e
 unfold nL at p
 generalize dl a=y at p
 cases y with
 |stuck=>cases b<;>exact p
 |err k a'=>cases b<;>exact p
 |ok ps a'=>intro D C m' bz I st A m;refine Θ λv=>?_;obtain⟨L,o,M,e,es,j,z,F,w⟩:=I.Ni g.base.live st A b;rw[e]at p;refine v<|(?_:wpAny s.G.M c.A (PySem.assign (.Name x i5) c.env<|.ref D) _ E bz.s);simp only[←es];refine wpAny_assign_Name<|lP j q H F λd B l=>?_;have f:=(m.with es w).later l;refine⟨m',f.ns,λκ G=>?_⟩;obtain⟨J,K⟩:=f.go B (g.fi j z l) G;exact p .next ⟨{d.s with heap:=κ},d.T,d.a6⟩ J K .next
end
variable {ej:Array Value}
section
open PySem.SeqAt PySem.MeetsSeq PySem.MeetsSeq3 PySem.AutoSeq1
noncomputable def ti:List Int->List Int->Bool
 |[],[]=>false
 |[],_::_=>true
 |_::_,[]=>false
 |x::xs,y::ys=>if x=y then ti xs ys else decide<|x<y
theorem ints_get{ns:List Int}(h:IntsAre vs ns):∀(i:Nat) (x:Value),vs[i]?=some x->ka (λn t=>x=.int n t) λn t=>ns[i]?=some n:=by
 induction h with
 |nil=>intro i x e;simp at e
 |cons n t _ b=>
  intro i x e
  cases i with
  |zero=>simp at e;exact⟨n,t,e.symm,rfl⟩
  |succ i=>simpa using b i x (by simpa using e)
theorem MV(A:Around)(s:Shared)(a c:Int)(t u:Tok):EqAt A s (.int a t) (.int c u)<|a==c:=λprog W E Q h=>by
 refine wpAny_holding<|wpAny_ite_split (λb=>?_) λx=>?_
 ·cases eq_of_beq b;rw[beq_self_eq_true]at h;exact υ<|wpAny_rule<|ψ h
 ·exact υ<|RcAt.int_int a t c u prog W E _<|wpAny_truthy_bool h
section
variable {w:World}{s:Shared}
theorem Ny{l b:Addr}{items:Array Value}{n T:Nat}{xs ys:List Int}(J:IntsAre items.toList xs)(G:IntsAre ej.toList ys)(k:Nat):
 ∀i:Nat,i<=items.size->items.size-i=k->Meets (Builtin.«list.__eq__.loop» ⟨[.ref l,.ref b,rawInt i,rawInt 0],[]⟩) λA R s=>IsL s.heap l items n/\IsL s.heap b ej T/\R (.ok<|.ret<|.bool<|ti (xs.drop i)<|ys.drop i) s:=by
 have x:=J.length
 have q:=G.length
 replace x:=Array.length_toList▸x
 replace q:=Array.length_toList▸q
 induction k with
 |zero=>
  intro i f r prog w A R s h
  obtain⟨M,g,d,tk,os⟩:=s;obtain⟨o,m,h⟩:=h
  refine υ<|υ<|fN o<|ψ<|ψ<|υ<|υ<|fN m<|ψ<|ψ ?_
  refine Θ λS=>?_
  have B:items[((i:Nat):Int).toNat]?=none:=by simp;exact(ck 0x100e1212e291002e080 [_,_,_] ι r<|Nat.sub_add_cancel<|aV 0x100e1000e10 [_,_] ι f)
  have z:xs.drop i=[]:=by simp;exact(hB 0x100e3112e093202e08212e10 [_,_,_,_] ι x r<|Nat.sub_add_cancel<|aV 0x100e1000e10 [_,_] ι f)
  replace h:=z▸h
  refine S<|B▸?_
  refine Θ λH=>?_
  cases p:ej[((i:Nat):Int).toNat]? with
  |none=>
   have j:ej.size<=i:=by simpa using p
   refine H<|υ<|υ<|fN o<|ψ<|ψ<|υ<|υ<|fN m<|ψ<|ψ<|ψ ?_;show R (.ok<|.ret<|.bool<|decide (items.size<ej.size)) _;rw[decide_eq_false<|fF<|Nat.le_trans j f];have e:ys.drop i=[]:=drop_eq_nil_of_le<|ck 0x100e2100e2012e10 [_,_,_] ι q j;rw[e]at h;exact h
  |some y=>
   have j:i<ej.size:=by have:=(Array.getElem?_eq_some_iff.mp p).1;simpa using this
   refine H<|υ<|υ<|fN o<|ψ<|ψ<|υ<|υ<|fN m<|ψ<|ψ<|ψ ?_;show R (.ok<|.ret<|.bool<|decide (items.size<ej.size)) _;rw[decide_eq_true<|Nat.lt_of_le_of_lt (Nat.le_of_sub_eq_zero r) j];have e:ys.drop i=ys[i]::ys.drop (i+1):=drop_eq_getElem_cons<|ck 0x101e1201e0202e10 [_,_,_] ι q j;rw[e]at h;exact h
 |succ k L=>
  intro i f r prog w A R s h
  obtain⟨M,g,d,tk,os⟩:=s;obtain⟨o,m,h⟩:=h
  refine υ<|υ<|fN o<|ψ<|ψ<|υ<|υ<|fN m<|ψ<|ψ ?_
  have v:i<items.size:=(ck 0x121e3e8383222e3e838392012e911810 [_,_,_,_] ι r<|Nat.sub_add_cancel<|aV 0x100e1000e10 [_,_] ι f)
  have B:items[((i:Nat):Int).toNat]?=some items[i]:=by simp[v]
  have K:((i:Int)+1)=((i+1:Nat):Int):=by push_cast;rfl
  have z:xs.drop i=xs[i]::xs.drop (i+1):=drop_eq_getElem_cons<|ck 0x101e1201e0202e10 [_,_,_] ι x v
  rw[B]
  refine cY ?_
  cases p:ej[((i:Nat):Int).toNat]? with
  |none=>
   have j:ej.size<=i:=by simpa using p
   have e:ys.drop i=[]:=by simp;exact(ck 0x100e2100e2012e10 [_,_,_] ι q j)
   rw[z,e]at h;refine υ<|υ<|fN o<|ψ<|ψ<|υ<|υ<|fN m<|ψ<|ψ<|ψ ?_;show R (.ok<|.ret<|.bool<|decide (items.size<ej.size)) _;rw[decide_eq_false<|fF<|Nat.le_trans j<|Nat.le_of_lt v];exact h
  |some y=>
   refine Θ λN=>?_;have j:i<ej.size:=by have:=(Array.getElem?_eq_some_iff.mp p).1;simpa using this
   have e:ys.drop i=ys[i]::ys.drop (i+1):=drop_eq_getElem_cons<|ck 0x101e1201e0202e10 [_,_,_] ι q j;rw[z,e]at h;obtain⟨a,t,I,O⟩:=ints_get J i items[i] (by simp[v]);obtain⟨c,u,F,Q⟩:=ints_get G i y (by simpa using p);have D:=(b8 O).2;have E:=(b8 Q).2;rw[D,E]at h;refine N ?_;rw[I,F];refine υ<|MV _ _ a c t u prog w _ _ ?_;by_cases C:a=c
   ·subst C;rw[ti,if_pos rfl]at h;rw[beq_self_eq_true];refine wpAny_ite_true (Eq.refl _)<|ψ ?_;rw[K];exact⟨plainId_quiet plain_eq_loop _,codeAny_builtin entry_eq_loop (by rw[Around.under_plainId plain_eq_loop _];exact L (i+1) (aV 0x100e19118001e10 [_,_] ι v) (hB 0x102e1212e493002e4991183202e911810 [_,_,_,_,_] ι r (Nat.sub_add_cancel<|aV 0x100e19118001e10 [_,_] ι v)<|Nat.sub_add_cancel<|aV 0x100e1000e10 [_,_] ι f) prog w A R _ ⟨o,m,h⟩)⟩
   ·rw[ti,if_neg C]at h;rw[beq_eq_false_iff_ne.mpr C];refine wpAny_ite_false (Eq.refl _)<|υ<|υ<|fN o<|ψ<|ψ<|υ<|υ<|fN m<|ψ<|ψ ?_;refine cY ?_;rw[B,p,I,F];refine υ<|P.lt_int ?_;exact ψ h
theorem US{l b:Addr}{items:Array Value}{f:Nat}{xs ys:List Int}(i:IntsAre items.toList xs)(e:IntsAre ej.toList ys):Meets (Builtin.«list.__lt__» ⟨[.ref l,.ref b],[]⟩)
 (λA R s=>IsL s.heap l items n/\IsL s.heap b ej f/\R (.ok<|.ret<|.bool<|ti xs ys) s):=by
 intro prog w A R s h
 obtain⟨k,g,d,tk,os⟩:=s;obtain⟨j,c,h⟩:=h
 have m:=AutoSeq1.sub_list_list
 refine υ ?_
 repeat (first|(with_reducible refine υ ?_)|(with_reducible refine cY ?_)|wp_step)
 exact⟨plainId_quiet plain_eq_loop _,codeAny_builtin entry_eq_loop (by exact Ny i e _ 0 (zero_le _) rfl prog w A R _ ⟨j,c,h⟩)⟩
theorem Nx{l b:Addr}{items:Array Value}{g:Nat}{xs ys:List Int}{Q:Bool->Shared->Prop}(f:A.units<cLine)(i:IntsAre items.toList xs)(e:IntsAre ej.toList ys)(c:IsL s.heap l items n)(d:IsL s.heap b ej g)
 (h:Q (ti xs ys) s):wpAny (model prog w) A (oneLt' true (.ref l)<|.ref b) Q E s:=by
 rw[oneLt'_eq]
 dsimp only[if_true]
 refine υ<|wpAny_cRoomFor f ?_
 refine υ<|wpAny_callSpecialIfBound?_slot (⟨_,c,rfl⟩) _root_.PySem.F.slot_list_lt<|wpAny_call<|codeAny_call_builtin _root_.PySem.F.slot_list_lt.plain _root_.PySem.F.entry_list_lt<|_root_.PySem.F.slot_list_lt.check _ _ _ _ _ _ _ _ (⟨_,c,rfl⟩) (_root_.PySem.F.args_list_lt_2 _ _)<|US i e prog w A (wants _ E) s ⟨c,d,?_⟩
 exact wpAny_truthy_bool h
end
noncomputable def zo{α:Type}(c:Nat->Nat->Bool):KasT α->α
 |.ret a=>a
 |.ask i j k=>zo c (k<|c i j)
noncomputable def jK(n:Nat){α:Type}:KasT α->(α->Prop)->Prop
 |.ret a,P=>P a
 |.ask i j k,P=>i<n/\j<n/\∀b,jK n (k b) P
theorem jK.bind{f:α->KasT β}{P:α->Prop}{Q:β->Prop}:∀{t:KasT α},jK n t P->(∀a,P a->jK n (f a) Q)->jK n (t.bind f) Q
 |.ret a,h,k=>k a h
 |.ask i j g,h,k=>⟨h.1,h.2.1,λb=>(h.2.2 b).bind k⟩
theorem jK.run{P:α->Prop}{c:Nat->Nat->Bool}:∀{t:KasT α},jK n t P->P (zo c t)
 |.ret a,h=>h
 |.ask i j g,h=>(h.2.2 _).run
theorem jK.wp{P:α->Prop}{c:Nat->Nat->Bool}{b:Nat->Nat->(Bool->Shared->Prop)->Shared->Prop}{Q:α->Shared->Prop}{s:Shared}(d:∀i j C,i<n->j<n->C (c i j) s->b i j C s):
 ∀{t:KasT α},jK n t P->Q (zo c t) s->t.kasWp b Q s
 |.ret a,_,q=>q
 |.ask i j g,h,q=>d i j _ h.1 h.2.1 ((h.2.2 _).wp d q)
def Lt(n:Nat)(p:Array Nat):Prop:=p.size=n/\∀x∈p,x<n
theorem Lt.get{n:Nat}{p:Array Nat}(h:Lt n p)(h0:0<n)(i:Nat):p.getD i 0<n:=by
 by_cases q:i<p.size
 ·have:p.getD i 0=p[i]:=by simp[Array.getD,q]
  rw[this];exact h.2 _<|Array.getElem_mem q
 ·have:p.getD i 0=0:=by simp[Array.getD,q]
  rw[this];exact h0
theorem Lt.perm{p q:Array Nat}(h:Lt n p)(e:q.Perm p):Lt n q:=⟨e.size_eq.trans h.1,λx b=>h.2 x<|e.mem_iff.mp b⟩
theorem Lt.rev{n:Nat}{p:Array Nat}(h:Lt n p)(i j:Nat):Lt n<|kas_rev p i j:=h.perm<|mirror_perm _ _ _ _
theorem Lt.Z9{n:Nat}{p:Array Nat}(h:Lt n p)(i j:Nat):Lt n<|bubble p i j:=h.perm<|bubble_perm _ _ _
theorem yJ{n:Nat}{p:Array Nat}(h:Lt n p)(h0:0<n):∀f k,jK n (kas_asc p f k) λx=>True
 |0,k=>trivial
 |f+1,k=>⟨h.get h0 _,h.get h0 _,λb=>by
  cases b with
  |true=>exact trivial
  |false=>exact yJ h h0 f<|k+1⟩
theorem qo{n:Nat}(h0:0<n):∀f (p:Array Nat) k q,Lt n p->jK n (kas_desc f p k q) λr=>Lt n r.1
 |0,p,k,q,h=>h
 |f+1,p,k,q,h=>⟨h.get h0 _,h.get h0 _,λb=>by
  cases b with
  |true=>
   dsimp only;refine(if_pos rfl)▸?_;split
   ·exact qo h0 f _ _ _<|h.rev _ _
   ·exact qo h0 f _ _ _ h
  |false=>
   refine⟨h.get h0 _,h.get h0 _,λd=>?_⟩
   cases d with
   |true=>exact h
   |false=>exact qo h0 f _ _ _ h⟩
theorem yK{n:Nat}(h0:0<n){p:Array Nat}(h:Lt n p)(a b:Nat):jK n (kas_tail3 a b p) λr=>Lt n r.2:=(yJ (h.rev _ _) h0 _ _).bind λm x=>h.rev _ _
theorem rq{n:Nat}(h0:0<n){p:Array Nat}(h:Lt n p)(a b:Nat):jK n (kas_descPart a b p) λr=>Lt n r.2:=
 (qo h0 _ _ _ _ h).bind λr c=>by
  split
  ·exact yK h0 (c.rev _ _) _ _
  ·exact yK h0 c _ _
theorem I7{n:Nat}(h0:0<n){p:Array Nat}(h:Lt n p)(b:Nat):jK n (kas_count b p) λr=>Lt n r.2:=
 (yJ h h0 _ _).bind λa x=>by
  split
  ·exact h
  ·split
   ·refine⟨h.get h0 _,h.get h0 _,λc=>?_⟩;cases c with
    |true=>exact h
    |false=>exact rq h0 (h.rev _ _) _ _
   ·exact rq h0 h _ _
theorem rY{n:Nat}(h0:0<n){p:Array Nat}(h:Lt n p)(k:Nat):∀f l r,jK n (kas_place p k f l r) λx=>True
 |0,l,r=>trivial
 |f+1,l,r=>by
  unfold kas_place;split
  ·exact trivial
  ·refine⟨h.get h0 _,h.get h0 _,λc=>?_⟩;cases c with
   |true=>exact rY h0 h k f _ _
   |false=>exact rY h0 h k f _ _
theorem FP{n:Nat}(h0:0<n):∀f (p:Array Nat) k,Lt n p->jK n (kas_bin f p k) λr=>Lt n r
 |0,p,k,h=>h
 |f+1,p,k,h=>(rY h0 h k _ _ _).bind λl x=>FP h0 f _ _<|h.Z9 _ _
theorem Bz(h0:0<n):jK n (kas_sort n) λr=>Lt n r:=by
 have h:Lt n<|List.toArray<|List.range n:=⟨by simp,λx c=>by simpa using c⟩;refine(I7 h0 h n).bind λr b=>?_;split
 ·exact FP h0 _ _ _ b
 ·exact b
def g8(aA:List<|List Int):List Nat:=if aA.length<2 then List.range aA.length else(zo (λi j=>ti (aA.getD i [])<|aA.getD j [])<|kas_sort aA.length).toList
theorem vX(aA:List<|List Int):(g8 aA).length=aA.length/\∀x∈g8 aA,x<aA.length:=by
 unfold g8;split
 ·exact⟨length_range,λx b=>List.mem_range.mp b⟩
 ·have h:Lt aA.length<|zo (λi j=>ti (aA.getD i [])<|aA.getD j [])<|kas_sort aA.length:=(Bz<|aV 0x121e7d03800804e2180 [_] ι ‹_›).run;exact⟨by rw[Array.length_toList];exact h.1,λx b=>h.2 x<|Array.mem_def.mpr b⟩
def iz(b:Bool)(aA:List<|List Int)(xs:List ζ):List ζ:=katRev b<|(g8<|katRev b aA).map λi=>(katRev b xs).getD i .none
end
variable {aA:List<|List Int}{eS:Addr}{keyOf:ζ->Option ζ}
section
open PySem.SeqAt PySem.MeetsSeq
theorem ints_of{G:aB}{r:ax}:∀{xs:List ζ} {vs:List Value} {ns:List Int},bV G r xs vs->fQ xs=some ns->IntsAre vs ns
 |[],vs,ns,h,e=>by cases e;cases length_eq_zero_iff.mp h.len.symm;exact .nil
 |x::xs,vs,ns,h,e=>ω e λi b e=>ω e λd c e=>by
  cases e
  cases vs with
  |nil=>exact nomatch h.len
  |cons v vs=>obtain⟨t,rfl⟩:=h.head.jl b;exact .cons _ _<|ints_of h.tail c
inductive Cc(h:Heap)(v:Value)(k:List Int):Prop
 |mk (a ws n:_):v=.ref a->h.get? a=some (bW ws n)->IntsAre ws k->Cc h v k
abbrev xr(h:Heap):List Value->List (List Int)->Prop:=All<|Cc h
theorem All.RA{h:Heap}{i:Nat}(x:xr h vs aA)(l:i<aA.length):Cc h (vs.getD i .none)<|aA.getD i []:=by rw[getD_eq_getElem?_getD,getD_eq_getElem?_getD,b3 l,b3<|x.len▸l];exact x.get i _ _ (b3<|x.len▸l)<|b3 l
theorem All.rev{R:α->β->Prop}(b:Bool){xs:List α}{ys:List β}(x:All R xs ys):All R (katRev b xs)<|katRev b ys:=by
 cases b with
 |false=>exact x
 |true=>exact x.reverse
theorem All.pick{r:ax}{xs:List ζ}{vs:List Value}(x:bV G r xs vs)(is:List Nat):bV G r (is.map λi=>xs.getD i .none)<|is.map λi=>vs.getD i Value.none:=⟨by rw[length_map,length_map],λj p v c b=>by
 rw[List.getElem?_map]at c b;obtain⟨i,d,rfl⟩:=Option.map_eq_some_iff.mp c;rw[d]at b;obtain rfl:=Φ b;refine(?_:Rel G r (xs.getD i ζ.none)<|vs.getD i Value.none);simp only[getD_eq_getElem?_getD,getD_eq_getElem?_getD];rcases Nat.lt_or_ge i xs.length with q|q
 ·rw[b3 q,b3<|x.len▸q];exact x.get i _ _ (b3 q)<|b3<|x.len▸q
 ·rw[List.getElem?_eq_none_iff.mpr q,List.getElem?_eq_none_iff.mpr<|x.len▸q];exact .none⟩
theorem J7{w:World}{s:Shared}{b:Bool}{aA:List Value}{d:List<|List Int}{y e:Nat}{P:PySem.Fin->Shared->Prop}(dg:A.units<cLine)(cA:s.heap.get? D=some (seqObj "list" #[] y))
 (J:s.heap.get? eS=some (seqObj "list" (List.toArray aA) e)) (dy:D≠eS) (r:xr s.heap aA d) (g:vs.length=d.length) (F:vs.length<64)
 (h:∀κ c,κ.get? D=some (seqObj "list" (List.toArray<|katRev b<|(g8<|katRev b d).map λi=>(katRev b vs).getD i Value.none) c)->(∀a o,a≠D->a≠eS->s.heap.get? a=some o->κ.get? a=some o)->P (.done<|.ret .none) {s with heap:=κ}):
 wpAny (model prog w) A (ksk_end D b vs.toArray y (.ref eS)<|List.toArray aA) P E s:=by
 have lk:=r.len
 have tail:∀(st:SortSt) (s':Shared),s'=s->(arrOf st).map (·.2)=List.toArray ((g8<|katRev b d).map λi=>(katRev b vs).getD i Value.none)->failedOf st=none->wpAny (model prog w) A (ksk_tail D b y (.ref eS) st) P E s':=by
  rintro st s' rfl S hf;obtain⟨l,U⟩:∃l,(s'.heap.update eS<|mapSeq λW=>(#[]:Array Value)).get? eS=some (seqObj "list" #[] l):=⟨_,get?_update_seq J λW=>#[]⟩;have N:=(vX<|katRev b d).1;rw[kat_len]at N;delta ksk_tail;dsimp only;simp only[S,kat_outs];refine υ<|listUpdate_at J rfl ?_ (by rw[List.size_toArray,sizeLine_eq];exact(hB 0x100e100000078202e1201e4028012e10 [_,_,_] ι g F lk))<|zero_le _;refine υ<|wpAny_letGo ?_;have H:(s'.heap.update eS<|mapSeq λW=>(#[]:Array Value)).get? D=some (seqObj "list" #[] y):=by rw[get?_update_ne _ _ _ _ dy];exact cA
  refine υ<|seqEpoch_at H rfl ?_;refine υ<|listUpdate_at H rfl ?_ (zero_le _)<|Nat.le_trans (Nat.le_of_eq<|by rw[List.size_toArray,kat_len,length_map,N]) (by rw[sizeLine_eq];exact(ck 0x100e9118100000078101e4028012e10 [_,_] ι g F));simp only[hf];simp only[bne_self_eq_false,Bool.false_eq_true,if_false];refine ψ<|h _ _ (get?_update_seq H _) λa o M L q=>?_;rw[get?_update_ne _ _ _ _ M,get?_update_ne _ _ _ _ L];exact q
 have step:∀t:Sem PySem.Fin,wpAny (model prog w) A t P E s->wpAny (model prog w) A (if b=true then(do let _←rule "list.sort.reverse";t)else t) P E s:=by
  intro t K;split
  ·exact υ<|wpAny_rule K
  ·exact K
 delta ksk_end
 refine step _<|(kat_pairs b<|ck 0x102e0202e1212e10 [_,_,_] ι g lk)▸?_
 have z:(katRev b aA).length=(katRev b vs).length:=by rw[kat_len,kat_len];exact(ck 0x102e0202e1212e10 [_,_,_] ι g lk)
 by_cases f:vs.toArray.size<2
 ·rw[if_pos f,if_pos f];replace f:=List.size_toArray▸f;refine wP<|wP ?_;refine tail _ _ rfl ?_ rfl;have Z:g8 (katRev b d)=List.range d.length:=by unfold g8;rw[kat_len,if_pos<|by lia]
  simp only[Z];apply Array.toList_inj.mp;refine(?_:((List.toArray<|katRev b aA).zip (List.toArray<|katRev b vs)|>.map (·.2)).toList=_);refine Eq.symm Array.toList_map▸?_;have:((List.toArray<|katRev b aA).zip<|List.toArray<|katRev b vs).toList=(katRev b aA).zip (katRev b vs):=by rw[ksk_zip]
  simp only[this,List.map_snd_zip<|aV 0x100e0112e10 [_,_] ι z];refine(?_:_=List.map (λi=>(katRev b vs).getD i Value.none) (List.range d.length));refine g▸((kat_len b vs)▸?_);apply ext_getElem
  ·simp
  ·intro i η ay;simp[η]
 ·rw[if_neg f,if_neg f];refine υ<|kas_kind (T:=.type "list") (hB 0x120e7d038221824e3e938218032e3e9381222e3e93810 [_,_,_] ι g lk f) (λv Y=>?_) (by rfl) (by rfl) ?_
  ·obtain⟨i,m⟩:=List.getElem?_of_mem Y;obtain⟨k,oz⟩:∃k,d[i]?=some k:=⟨_,b3<|lk▸((b8 m).1)⟩;obtain⟨a,ws,n,rfl,cH,_⟩:=r.get i _ _ m oz;exact(Looks.ld cH).andThen .now
  ·refine υ (wpAny_mono (kat_run (Q:=λu s'=>s'=s/\(arrOf u).map (·.2)=List.toArray ((g8<|katRev b d).map λi=>(katRev b vs).getD i Value.none)/\failedOf u=none)
    (G:=λp s'=>s'=s/\p.toList=g8 (katRev b d)) z (by rw[kat_len];exact(aV 0x120e7d038021824e3e9382180 [_] ι f)) (by rw[kat_len];exact F) (λp u s' a1 a2 h9 O=>⟨O.1,?_,h9⟩) ?_) (λx s' I=>?_) λW W x=>x)
   ·rw[kat_snds z a2,O.2]
   ·have B:(katRev b vs).length=(katRev b d).length:=by rw[kat_len,kat_len,g]
    refine(Bz (by rw[kat_len];exact(aV 0x121e7d03800804e2180 [_] ι f))).wp (c:=λi j=>ti ((katRev b d).getD i [])<|(katRev b d).getD j []) (λi j C m cB X=>?_) ⟨rfl,?_⟩
    ·obtain⟨a1,nu,M,V,nZ,R⟩:=(r.rev b).RA (i:=i)<|ck 0x101e1201e0202e10 [_,_,_] ι B m;obtain⟨a2,lS,L,cp,lX,ie⟩:=(r.rev b).RA (i:=j)<|ck 0x101e1201e0202e10 [_,_,_] ι B cB;delta kas_ask;simp only[V,cp,keyLt'_oneType];exact Nx dg R ie nZ lX X
    ·unfold g8;rw[if_neg (by rw[kat_len];exact(ck 0x124e7d038218124e3e938218022e3e93810 [_,_] ι g f)),B]
   ·obtain⟨⟨⟩,u⟩:=x;exact tail _ _ I.1 I.2.1 I.2.2
def h4(p:ζ):Option<|List Int:=(jM p).bind fQ
noncomputable def fU{α β:Type}(f:α->Option β):List α->Option (List β)
 |[]=>some []
 |x::xs=>(f x).bind λy=>(fU f xs).bind λys=>some<|y::ys
theorem r1{α β:Type}{f:α->Option β}:∀{xs:List α} {ys:List β},fU f xs=some ys->ys.length=xs.length
 |[],_,h=>by cases h;rfl
 |x::xs,ys,h=>ω h λy c h=>ω h λzs b h=>by obtain rfl:=Φ h;exact congrArg (·+1)<|r1 b
theorem vO{G:aB}{r:ax}{h:Heap}(hz:Ci r h):∀{ys:List ζ} {aA:List Value} {c:List<|List Int},bV G r ys aA->fU h4 ys=some c->xr h aA c
 |[],aA,c,a,e=>by cases e;cases length_eq_zero_iff.mp a.len.symm;exact .nil
 |y::ys,aA,c,a,e=>ω e λk i e=>ω e λms j e=>ω i λxs d g=>by
  cases e
  cases aA with
  |nil=>exact nomatch a.len
  |cons v aA=>have b:=a.head;replace b:=(hg d)▸b;obtain⟨x,vs,n,rfl,z,f⟩:=b.jY;exact .cons ⟨x,vs,n,rfl,hz _ _ z,ints_of f g⟩<|vO hz a.tail j
structure so(G:aB)(K:Nat)(f:Addr)(keyOf:ζ->Option ζ):Prop where
 ex:∃con,d3 G K f con/\∀x y σ,keyOf x=some y->∃ρ,con [x] σ=.ok y ⟨ρ,σ⟩
structure Kx(G:aB)(r:ax)(σ:List Ξ)(D eS:Addr)(Γ:Nat)(r₂:ax)(zs:List ζ)(aA:List Value)(e:Nat):Prop where
 base:ae0 G r₂ σ
 d7:∀b,r₂.T b≠.fr
 fi:bt r r₂
 hH:r₂.T D=.no
 S7:r₂.T eS=.no
 XZ:r₂.h.get? D=some (bW [] Γ)
 MZ:r₂.h.get? eS=some (bW aA e)
 rel:bV G r₂ zs aA
inductive OG(G:aB)(r r₂:ax)(σ:List Ξ)(D eS:Addr)(Γ:Nat)(zs:List ζ)(aA:List Value)(s':Shared):Prop
 |mk (ct e':_):s'=ct.s->Kx G r σ D eS Γ ct zs aA e'->dq r₂ ct->OG G r r₂ σ D eS Γ zs aA s'
theorem ae0.Sq{r:ax}(b:ae0 G r σ)(c:r.T it=.no)(k:∀b o,b≠it->r.h.get? b=some o->κ.get? b=some o):ae0 G ⟨{r.s with heap:=κ,toks:=tk},r.T,r.a6⟩ σ:=
 b.chg ⟨λx x=>rfl,λb q o e=>k b o q e,rfl,rfl⟩ (λb q=>by subst q;exact⟨λo q=>Tag.noConfusion<|c.symm.trans q,λo q=>Tag.noConfusion<|c.symm.trans q,λi q=>Tag.noConfusion<|c.symm.trans q,λq=>(q c).elim,λi q=>Tag.noConfusion<|c.symm.trans q⟩) rfl
theorem G4{f:Addr}{r:ax}{E:Value->Shared->Prop}(F:so G gQ f keyOf){A':Around}(U:oi gQ A')(L:Frs A' r)(H:∀a,r.T a≠.no->bA r.h a)(M:∀b,r.T b≠.fr){z:Nat}(V:D≠eS)
 {body:Value->PUnit->Sem (ForInStep PUnit)} {P:Shared->Prop}
 (Q:∀x s (C:Value->Shared->Prop),wpAny G.M A' (call (.ref f) [x]) (λk s'=>∃aA e,length aA<64/\s'.heap.get? eS=some (seqObj "list" (List.toArray aA) e)/\C k {s' with heap:=s'.heap.update eS (mapSeq (·.push k))}) (λW W=>False) s->wpAny G.M A' (body x ⟨⟩) (λq s'=>q=.yield ⟨⟩/\∃k,C k s') E s) (gi:cx r.h D) (CQ:cx r.h eS):
 ∀(xs:List ζ) (vs:List Value) (ys zs:List ζ) (aA:List Value) (r₂:ax) (e:Nat),aA.length+xs.length<64->Kx G r σ D eS z r₂ zs aA e->bV G r₂ xs vs->fU keyOf xs=some ys->(∀c eJ e',Kx G r σ D eS z c (zs++ys) eJ e'->dq r₂ c->P c.s)->wpAny G.M A' (forIn vs PUnit.unit body) (λW s'=>P s') E r₂.s:=by
 intro xs
 induction xs with
 |nil=>intro vs ys zs aA r₂ e A k i g h;obtain rfl:=Φ g;obtain rfl:=length_eq_zero_iff.mp i.len.symm;exact ψ<|h r₂ aA e (by rw[append_nil];exact k) .refl
 |cons x xs R=>
  intro vs ys zs aA r₂ e A k i g h
  refine ω g λy T g=>ω g λt2 p g=>?_
  obtain rfl:=Φ g
  cases vs with
  |nil=>exact Of i.len
  |cons v vs=>
  rw[forIn_cons]
  refine Θ λY=>?_
  obtain⟨con,F,m⟩:=F.ex
  have X:=L.keep λq t l=>⟨by rw[k.fi.tags H q t l];exact t,t.elim (k.fi.keep q) λt=>(M q t).elim⟩
  refine Y<|υ<|wpAny_mono (Q v r₂.s (λw s'=>OG G r r₂ σ D eS z (zs++[y]) (aA++[w]) s') ?_) (λq s' S=>?_) λW W x=>x
  ·refine F.rA A' r₂ σ [x] [v] _ _ U X k.base k.d7 (.cons i.head .nil) ?_;obtain⟨ρ,m⟩:=m x y σ T;refine m▸?_;intro w c O d N u;have J:=get?_update_seq (lA k.MZ<|d.keep eS k.S7) (·.push w);rw[push_toArray]at J;exact⟨aA,e,(aV 0x101e4028001e40289911810 [_,_] ι A),(lA k.MZ<|d.keep eS k.S7),⟨{c.s with heap:=c.h.update eS (mapSeq (·.push w))},c.T,c.a6⟩,_,rfl,⟨O.Sq (d.no eS k.S7 ⟨_,k.MZ⟩) (λb o q e=>((SameBut.update c.h eS (mapSeq (·.push w))).2 b q).trans e:∀b o,b≠eS->c.h.get? b=some o->(c.h.update eS (mapSeq (·.push w))).get? b=some o),N,(k.fi.trans d H k.base.live).other CQ (λb o q e=>((SameBut.update c.h eS (mapSeq (·.push w))).2 b q).trans e:∀b o,b≠eS->c.h.get? b=some o->(c.h.update eS (mapSeq (·.push w))).get? b=some o),d.no D k.hH ⟨_,k.XZ⟩,(d.no eS k.S7 ⟨_,k.MZ⟩),(λb o q e=>((SameBut.update c.h eS (mapSeq (·.push w))).2 b q).trans e:∀b o,b≠eS->c.h.get? b=some o->(c.h.update eS (mapSeq (·.push w))).get? b=some o) D _ V<|lA k.XZ<|d.keep D k.hH,J,((k.rel.mono d.mono).append<|.cons u .nil).mono ⟨λW W e=>e,λW W e=>e⟩⟩,⟨λa o e=>d.mono.z a o e,λj y e=>d.mono.m j y e⟩⟩
  ·obtain⟨rfl,w,c,e',rfl,d9,I⟩:=S;exact R vs t2 (zs++[y]) (aA++[w]) c e' (by rw[Δ,length_singleton];exact(aV 0x101e4028919118001e40289911810 [_,_] ι A)) d9 (i.tail.mono I) p λZ eJ K B n=>h Z eJ K (by rw[bp]at B;exact B)<|I.trans n
end
section
open PySem.SeqAt PySem.MeetsSeq
section
variable {c:Fr s}
theorem Mq(h:oi K A):oi (K-1) A.in1.in1/\A.in1.in1.units<cLine\/K=0:=by
 cases K with
 |zero=>exact .inr rfl
 |succ K=>have:cLine=9900:=rfl;exact .inl ⟨⟨h.handled,Nat.le_trans (Nat.add_le_add_left (le_succ K) _) h.depth,by rw[afb,afb];show _+8*K<=_;exact(aV 0x100e2328489c181891189118000e2328489c911818180 [_,_] ι h.units)⟩,by rw[afb,afb];exact(ck 0x121e970fe068291189118032e893cd16826ac48220e970fe0682328489c911818180 [_,_,_] ι h.units this)⟩
theorem bt.zb{r:ax}(st:bt r r')(d:cx r.h D)(c:cx r.h eS)(k:∀b o,b≠D->b≠eS->r'.h.get? b=some o->κ.get? b=some o):bt r ⟨{r'.s with heap:=κ,toks:=tk},r'.T,r'.a6⟩:=
 ⟨⟨st.mono.z,st.mono.m⟩,λa t o e=>by obtain⟨bu,e',q⟩:=st.keep a t o e;exact⟨bu,k a bu (λz=>bA.ne ⟨o,z▸e⟩ d) (λz=>bA.ne ⟨o,z▸e⟩ c) e',q⟩,st.no,st.fr,st.bO⟩
theorem ae0.zb{r:ax}(b:ae0 G r σ)(c:r.T D=.no)(d:r.T eS=.no)(k:∀b o,b≠D->b≠eS->r.h.get? b=some o->κ.get? b=some o):ae0 G ⟨{r.s with heap:=κ,toks:=tk},r.T,r.a6⟩ σ:=
 b.chg (S:=λb=>b=D\/b=eS) ⟨λx x=>rfl,λb q o e=>k b o (λz=>q<|.inl z) (λz=>q<|.inr z) e,rfl,rfl⟩ (λb q=>by have c:=q.elim (λz=>z▸c) λz=>z▸d;exact⟨λo q=>Tag.noConfusion<|c.symm.trans q,λo q=>Tag.noConfusion<|c.symm.trans q,λi q=>Tag.noConfusion<|c.symm.trans q,λq=>(q c).elim,λi q=>Tag.noConfusion<|c.symm.trans q⟩) rfl
theorem AM{f:Addr}(F:so s.G gQ f keyOf)(O:gQ+1<=s.K){b:Bool}{R:List<|List Int}{v:Value}{r:ax}(g:aL c a r)(bR:Rel s.G r (.list xs) v)(n:xs.length<64)(Y:fU keyOf xs=some ys)
 (hz:fU h4 ys=some R) (p:fc c r (.ok (iz b R xs) a) Q E):wpAny s.G.M c.A (call (.builtin "sorted") [v] [(Str.ofString "key",.ref f),(Str.ofString "reverse",.bool b)]) Q E r.s:=by
 refine Θ λφ=>?_
 obtain⟨l,vs,RU,rfl,Am,M⟩:=bR.jY
 have ο:=jW<|g.base.fy _ _ Am
 have h:=M.len.symm
 have I:=r1 Y
 have J:=r1 hz
 refine φ<|call_function_entry_kw kind_sorted plain_sorted entry_sorted (ksk_s2 _ _ _) ?_
 refine υ<|ψ ?_
 refine υ<|collect_list ο ?_ (by rw[sizeLine_eq];exact(ck 0x100e100000078102e0101e40280 [_,_] ι n h))
 refine υ<|wpAny_newList ?_ (by rw[sizeLine_eq];exact(ck 0x100e100000078102e0101e40280 [_,_] ι n h))
 have c0:((r.s.heap.push<|seqObj "list" #[] 0).update r.s.heap.objs.size (mapSeq (·++vs.toArray))).objs.size=r.s.heap.objs.size+1:=by rw[size_update,size_push']
 have j:∀b o,r.s.heap.get? b=some o->(((r.s.heap.push<|seqObj "list" #[] 0).update r.s.heap.objs.size (mapSeq (·++vs.toArray))).push<|seqObj "list" vs.toArray 0).get? b=some o:=λb o q=>by have N:=lt_size q;rw[get?_push_ne _ _ _ (by rw[c0];exact ne_of_lt<|lt_succ_of_lt N),get?_update_ne _ _ _ _<|ne_of_lt N,get?_push_ne _ _ _<|ne_of_lt N];exact q
 have t:(((r.s.heap.push<|seqObj "list" #[] 0).update r.s.heap.objs.size (mapSeq (·++vs.toArray))).push<|seqObj "list" vs.toArray 0).get? (r.s.heap.objs.size+1)=some (seqObj "list" vs.toArray 0):=by rw[←c0];exact get?_push_size _ rfl
 generalize M5:((r.s.heap.push<|seqObj "list" #[] 0).update r.s.heap.objs.size (mapSeq (·++vs.toArray))).push (seqObj "list" vs.toArray 0)=H at t j
 have G:H.objs.size=r.s.heap.objs.size+2:=by rw[←M5,size_push',c0]
 show wpAny _ _ _ _ _ ⟨H,r.s.gens,r.s.drawn,r.s.toks,r.s.os⟩
 rw[c0]
 refine υ<|wpAny_holding<|wpAny_call_entry_kw slot_list_sort ⟨_,t,rfl⟩ entry_list_sort ?body<|ksk_l2 _ _ _
 case body=>
  rw[ksk_t2];obtain⟨z,X⟩:∃z,(H.update (r.s.heap.objs.size+1)<|mapSeq λW=>(#[]:Array Value)).get? (r.s.heap.objs.size+1)=some (seqObj "list" #[] z):=⟨_,get?_update_seq t λW=>#[]⟩;refine υ<|listItems_at t rfl ?_;refine υ<|listUpdate_at t rfl ?_ (by rw[List.size_toArray,sizeLine_eq];exact(ck 0x100e100000078102e0101e40280 [_,_] ι n h))<|zero_le _;refine υ<|seqEpoch_at X rfl ?_;refine υ<|wpAny_newTuple ?_ (by show vs.length<=_;rw[sizeLine_eq];exact(ck 0x100e100000078102e0101e40280 [_,_] ι n h));refine υ<|wpAny_newList ?_<|zero_le _;refine wpAny_holding ?_;obtain⟨D,i⟩:∃D,D=r.s.heap.objs.size+1:=⟨_,rfl⟩;have V:((H.update (r.s.heap.objs.size+1)<|mapSeq λW=>(#[]:Array Value)).push<|seqObj "tuple" vs.toArray 0).objs.size=r.s.heap.objs.size+3:=by rw[size_push',size_update,G]
  generalize B:(((H.update (r.s.heap.objs.size+1)<|mapSeq λW=>(#[]:Array Value)).push<|seqObj "tuple" vs.toArray 0).push<|seqObj "list" #[] 0)=m;have S:m.get? (r.s.heap.objs.size+1)=some (seqObj "list" #[] z):=by rw[←B];exact get?_push_of_some _<|get?_push_of_some _ X
  have UP:∀b o,r.s.heap.get? b=some o->m.get? b=some o:=λb o q=>by rw[←B];refine get?_push_of_some _<|get?_push_of_some _ ?_;rw[get?_update_ne _ _ _ _<|ne_of_lt<|lt_succ_of_lt<|lt_size q];exact j b o q
  have s1:=SameBut.update H (r.s.heap.objs.size+1)<|mapSeq λW=>(#[]:Array Value);obtain⟨eS,A⟩:∃eS,eS=r.s.heap.objs.size+3:=⟨_,rfl⟩;have dy:D≠eS:=(ck 0x105e2012e93181202e911810 [_,_,_] ι i A);have w:cx r.s.heap D:=dd<|aV 0x100e0112e911810 [_,_] ι i;have CQ:cx r.s.heap eS:=dd<|aV 0x100e0112e931810 [_,_] ι A;show wpAny s.G.M c.A.in1.in1 (ksk_rest (r.s.heap.objs.size+1) (.ref f) b vs.toArray z<|.ref ((H.update (r.s.heap.objs.size+1)<|mapSeq λW=>(#[]:Array Value)).push<|seqObj "tuple" vs.toArray 0).objs.size) _ _ ⟨m,r.s.gens,r.s.drawn,r.s.toks,r.s.os⟩;rw[V,←i,←A];rw[←i]at S;have U:m.get? (r.s.heap.objs.size+3)=some (seqObj "list" #[] 0):=by rw[←B,←V];exact get?_push_size _ rfl
  rw[←A]at U;have jd:=g.base.hide;obtain⟨bj,bD⟩:ae0 s.G ⟨{r.s with heap:=m},r.hide.T,r.a6⟩ a.σ/\bt r.hide ⟨{r.s with heap:=m},r.hide.T,r.a6⟩:=by have x:Out (λW=>False) r.hide ⟨{r.s with heap:=m},r.hide.T,r.a6⟩:=⟨λW W=>rfl,λy W o e=>UP y o e,rfl,rfl⟩;exact⟨jd.chg x (λW q=>q.elim) rfl,.fresh jd.live x (x.mono (λW q=>q.elim) rfl) λW q=>q.elim⟩
  have Z:=(Mq g.ij).resolve_right λq=>by rw[q]at O;exact not_succ_le_zero _ O
  have Bl:=Z.1.less<|Nat.le_sub_one_of_lt O;have dg:=Z.2;have Fq:Frs c.A.in1.in1 r.hide:=⟨g.mX.hide.ex⟩;refine υ<|wpAny_rule ?_
  first
   |rw[List.forIn_toArray]
   |(rw[←Array.forIn_toList];simp only[List.toList_toArray])
   |rw[←Array.forIn_toList]
  refine υ<|wpAny_mono (G4 (A':=c.A.in1.in1) F Bl Fq jd.live (λb=>gz) dy (λx s' e4 Ψ=>?_) w CQ xs vs ys [] [] ⟨{r.s with heap:=m},r.hide.T,r.a6⟩ 0 (by rw[length_nil,Nat.zero_add];exact n) ⟨bj,λb=>gz,bD,jd.no w,jd.no CQ,S,U,.nil⟩ ((M.mono eX).mono ⟨λW W e=>e,λW W e=>e⟩) Y (P:=λs'=>∃d aA e,s'=d.s/\Kx s.G r.hide a.σ D eS z d ys aA e) λd aA e k mo=>⟨d,aA,e,rfl,k⟩) (λW s' hd=>?_) λW W x=>x
  ·refine υ<|wpAny_attempt<|wpAny_mono Ψ (λk wb L=>?_) λW W e0=>e0.elim;obtain⟨aA,e,hz,L,q⟩:=L;refine cY ?_;refine υ<|listUpdate_at L rfl ?_ (by rw[List.size_toArray,sizeLine_eq];exact(aV 0x100e100000078001e40280 [_] ι hz))<|Nat.le_trans (Nat.le_of_eq<|Array.size_push ..) (by rw[List.size_toArray,sizeLine_eq];exact(aV 0x100e91181000000789118001e40280 [_] ι hz));exact ψ ⟨rfl,k,q⟩
  ·obtain⟨d,aA,e,rfl,d9⟩:=hd;refine υ<|listItems_at d9.MZ rfl ?_;refine J7 dg d9.XZ d9.MZ dy (vO d9.base.fy d9.rel hz) (by rw[J,I,h]) (by rw[h];exact n) λκ ce T u=>⟨_,rfl,ψ ⟨_,rfl,?_⟩⟩;have di:=d9.base.zb (tk:=d.s.toks) d9.hH d9.S7 u;have C:=d9.fi.zb (tk:=d.s.toks) w CQ u;rw[i];rw[i]at T;have K:bV s.G (ax.back ⟨{d.s with heap:=κ},d.T,d.a6⟩ r) (iz b R xs) _:=((M.mono (C.back g.base.live).mono).rev b).pick _|>.rev b;refine p _ (ax.back ⟨{d.s with heap:=κ},d.T,d.a6⟩ r) (g.call di C) (C.back g.base.live) ⟨_,_,ce,rfl,i▸w,?_,T,K⟩;show gv (r.T _) (d.T _)=.no;rw[g.base.no<|i▸w];exact i▸d9.hH
def xW(keyOf:ζ->Option ζ)(d de:Den):aI:=λa=>(d a).bind λp a=>(de a).bind λq a=>.of<|(jM p).bind λxs=>(k9 q).bind λb=>(fU keyOf xs).bind λys=>(fU h4 ys).bind λc=>if xs.length<64 then some (iz b c xs,a)else none
theorem b2.Vn{f:Addr}{q dH dD:Pos}{m:Expr}{i:Str}(F:so s.G gQ f keyOf)(u:s.G.cJ i=some (.ref f))(B:gQ+1<=s.K)(D:aw s e d)(j:aw s m de)(z:fw [e]=true)
 (G:s.G.cJ "sorted"=none) (H:s.ai.scope.names.lookup ("sorted":Str)=some .globalImplicit) (k:s.ai.scope.names.lookup i=some .globalImplicit) (o:(i==("__debug__":Str))=false):
 b2 s (.Call (.Name "sorted" np) [e] [⟨some "key",.Name i q,dH⟩,⟨some "reverse",m,dD⟩] pos) (xW keyOf d de):=λc a r Q E g p=>by
 have l:starEach [e] c.env=[(false,eval e c.env)]:=ho (lE z).1 _ _
 refine υ<|jE g G (v:=.builtin "sorted") (by rfl) H (by rfl) (by decide)<|callWith_kw ?_ (by rw[l];rfl) (by rw[l];rfl)
 refine args_cons (D.qC g p λP aX M a1 n K bj p=>args_nil<|kws_cons<|lz n u k o<|kws_cons<|j.qC n p λR L N a2 C A bX p=>kws_nil ?_) (by rw[l];rfl)
 refine p.of λy h p=>ω h λxs I h=>ω h λb J h=>ω h λys t h=>ω h λO w h=>bY h λx h=>?_
 obtain rfl:=Φ h
 rw[hg I]at bj
 obtain rfl:=bX.CA J
 exact AM F B C (bj.mono A.mono) x t w p
end
theorem Ec{a b:Int}{ns:List Int}(f:ns.Perm [a,b])(g:ns.Pairwise (·<=·)):ns=if b<a then[b,a]else[a,b]:=by
 have e:∀{c d:Int},c<=d->ns.Perm [c,d]->ns=[c,d]:=λh p=>List.Perm.eq_of_pairwise (λy y y y=>Int.le_antisymm) g (.cons (λx m=>(List.mem_singleton.mp m).symm▸h)<|pairwise_singleton ..) p;by_cases q:b<a
 ·rw[if_pos q];exact e (Int.le_of_lt q)<|f.trans<|.swap b a []
 ·rw[if_neg q];exact e (Int.not_lt.mp q) f
theorem xZ{w:World}{s:Shared}{a:Addr}{Q:List Value->Shared->Prop}(L:A.handled=none)(t:s.heap.get? a=some {cls:=.type "dict",data:=.dict #[]})(O:(a==sysModules)=false)
 (h:∀κ,(∀b o,s.heap.get? b=some o->κ.get? b=some o)->Q [] {s with heap:=κ}):wpAny (model prog w) A (collect<|.ref a) Q E s:=by
 refine υ<|wpAny_runValue<|codeAny_builtin _root_.PySem.F.entry_proto_collect ?_
 refine υ<|wpAny_newObj_type ?_
 refine ψ ⟨plainId_quiet _root_.PySem.F.plain_list_iadd _,codeAny_builtin _root_.PySem.F.entry_list_iadd ?_⟩
 have i:=get?_push_of_some {cls:=.type "list",data:=.seq ([]:List Value).toArray} t
 have F:(s.heap.push {cls:=.type "list",data:=.seq ([]:List Value).toArray}).get? s.heap.objs.size=some {cls:=.type "list",data:=.seq ([]:List Value).toArray}:=get?_push_size _ rfl
 refine(?_:wpAny _ A.in1 (Builtin.List.listExtendWith (.ref s.heap.objs.size) (.ref a)<|.ref s.heap.objs.size) _ _ _)
 refine υ<|wpAny_typeOf ⟨_,i,rfl⟩ ?_
 refine cY ?_
 rw[if_neg (by rw[(by simp[Builtin.List.listSameRef];exactλq=>Nat.lt_irrefl _ (q▸(lt_size t)):Builtin.List.listSameRef (.ref s.heap.objs.size) (.ref a)=false)];decide)]
 have v:(s.heap.push {cls:=.type "list",data:=.seq ([]:List Value).toArray}).DictAt (intKind prog w) a [] 0:=⟨_,#[],i,by first|exact .inl rfl|exact rfl|(unfold ExactDict;simp),rfl,λe d=>by simp at d,by first|exact .nil|trivial,by simp⟩
 refine υ<|wpAny_pyIter_dict O v ?_
 refine υ<|wpAny_holding ?_
 have C:=get?_push_of_some {cls:=.type "dict_keyiterator",data:=.fields #[.ref a,.int 0 0,.int ([]:List<|Int×Value).length 0,.int 0 0]} i
 have g:Shared.TypeIs ⟨(s.heap.push {cls:=.type "list",data:=.seq ([]:List Value).toArray}).push {cls:=.type "dict_keyiterator",data:=.fields #[.ref a,.int 0 0,.int ([]:List<|Int×Value).length 0,.int 0 0]},s.gens,s.drawn,s.toks,s.os⟩ (.ref a) "dict":=⟨_,C,rfl⟩
 refine υ<|wpAny_specialOf g _root_.PySem.F.slot_dict_len.lookup ?_
 generalize kq:("dict.__len__":String)=K
 subst kq
 refine cY ?_
 wp_delta
 refine υ<|wpAny_isInstance (b:=true) g (by rw[isSubtype_type];kernel_rfl) ?_
 refine cY ?_
 rw[if_neg<|by decide]
 refine υ<|wpAny_typeOf g ?_
 refine ψ<|cY ?_
 generalize c:((s.heap.push {cls:=.type "list",data:=.seq ([]:List Value).toArray}).push {cls:=.type "dict_keyiterator",data:=.fields #[.ref a,.int 0 0,.int ([]:List<|Int×Value).length 0,.int 0 0]})=H at C
 have y:H.get? s.heap.objs.size=some (seqObj "list" #[] 0):=by rw[←c];exact get?_push_of_some _ F
 have u:(s.heap.push {cls:=.type "list",data:=.seq ([]:List Value).toArray}).objs.size=s.heap.objs.size+1:=Heap.size_push _ _
 have l:IsKeyIter H (s.heap.objs.size+1) a 0 ([]:List<|Int×Value).length 0:=by rw[←c,←u];exact⟨_,get?_push_size _ rfl,rfl,rfl⟩
 have p:DictAt (intKind prog w) H a [] 0:=by rw[←c];exact v.push _
 have G:∀b o,s.heap.get? b=some o->H.get? b=some o:=λb o e=>by rw[←c];exact get?_push_of_some _<|get?_push_of_some _ e
 have t1:=SameBut.update H s.heap.objs.size (mapSeq (·.push Value.none))
 have z:(H.update s.heap.objs.size (mapSeq (·.push Value.none))).get? s.heap.objs.size=some (seqObj "list" #[Value.none] 1):=get?_update_seq y _
 have h2:=SameBut.update (H.update s.heap.objs.size (mapSeq (·.push Value.none))) s.heap.objs.size (mapSeq (·.pop))
 have B:((H.update s.heap.objs.size (mapSeq (·.push Value.none))).update s.heap.objs.size (mapSeq (·.pop))).get? s.heap.objs.size=some (seqObj "list" #[] 2):=get?_update_seq z _
 generalize x:(H.update s.heap.objs.size (mapSeq (·.push Value.none))).update s.heap.objs.size (mapSeq (·.pop))=j at B
 refine υ<|wpAny_rule ?_
 refine υ (υ<|listUpdate_at y rfl ?_ (zero_le _)<|by decide)
 refine listUpdate_at (s:=⟨_,s.gens,s.drawn,s.toks,s.os⟩) z rfl ?_ (by decide) (by decide)
 show wpAny _ _ _ _ _ ⟨(H.update s.heap.objs.size (mapSeq (·.push Value.none))).update s.heap.objs.size (mapSeq (·.pop)),s.gens,s.drawn,s.toks,s.os⟩
 rw[x]
 refine ψ ⟨plainId_quiet _root_.PySem.F.plain_extend_loop _,?_⟩
 refine codeAny_builtin _root_.PySem.F.entry_extend_loop ?_
 rw[Around.under_plainId _root_.PySem.F.plain_extend_loop _]
 refine Θ λM=>?_
 obtain⟨I,D,ie,J⟩:=l
 have N:=ne_of_lt<|lt_size t
 have f:∀b o,b≠s.heap.objs.size->H.get? b=some o->j.get? b=some o:=λb o q e=>by rw[←x];exact(h2.2 b q).trans<|(t1.2 b q).trans e
 have m:IsKeyIter j (s.heap.objs.size+1) a 0 ([]:List<|Int×Value).length 0:=⟨I,f _ _ (succ_ne_self _) D,ie,J⟩
 have k:DictAt (intKind prog w) j a [] 0:=let⟨o,es,e,r⟩:=p;⟨o,es,f _ _ N e,r⟩
 refine M<|u▸?_
 refine υ<|wpAny_pyNext_dict_end L m k rfl λκ d=>?_
 refine ψ ?_
 have n:=d _ _ (ne_of_lt<|lt_succ_self _) B
 exact fN n<|ψ<|h κ λb o e=>d b o (ne_of_lt<|lt_succ_of_lt<|lt_size e)<|f b o (ne_of_lt<|lt_size e)<|G b o e
end
section
open PySem.SeqAt PySem.MeetsSeq
section
variable {c:Fr s}
def AY(p:ζ):Option Unit:=p.v none (z:=some ())
theorem z3{u:Unit}(h:AY p=some u):p=.dJ:=kK (P:=λx=>p=.dJ) (by clear h;cases p<;>first|exact trivial|rfl) h
theorem aw.dJ:aw s (.Dict [] [] pos)<|eg .dJ:=λc a r Q E g p=>by refine wpAny_Dict_empty ?_;obtain⟨b,st⟩:=g.LY (o:={cls:=.type "dict",data:=.dict #[]}) rfl;refine p _ ⟨{r.s with heap:=r.h.push {cls:=.type "dict",data:=.dict #[]}},_,_⟩ b st<|.dJ cy ?_;obtain⟨o,_,_,e,_⟩:=g.base.ns;exact beq_eq_false_iff_ne.mpr λq=>absurd (lt_size e) (fF (by rw[q];decide))
noncomputable def two(x y:Int):List ζ:=if y<x then[.int y,.int x]else[.int x,.int y]
def Vm:List Int->Option (List ζ)
 |[x,y]=>some (two x y)
 |_=>none
def qt:l0:=λps a=>.of<|(one ps).bind λp=>(((AY p).bind λx=>some (.list [],a))).or<|(view a p).bind λxs=>(fQ xs).bind λis=>(Vm is).bind λys=>some (.list ys,a)
theorem yM{r:ax}{l:List Value}{z w:Int}(h:IntsAre l [z,w]):bV G r [.int z,.int w] l:=by
 cases h with
 |cons _ t h=>
  cases h with
  |cons _ u h=>cases h;exact .cons (.int _ _)<|.cons (.int _ _) .nil
theorem D7{r:ax}{v:Value}(g:aL c a r)(b:Rel s.G r p v)(e:view a p=some xs)(f:fQ xs=some [x,y])(o:bM c r (Rel s.G) (.ok (.list<|two x y) a) Q E):wpAny s.G.M c.A (call (.builtin "sorted") [v]) Q E r.s:=by
 refine Θ λz=>?_;obtain⟨l,ws,n,rfl,d,i⟩:=g.view b e;obtain⟨cC,w,rfl⟩:=i.ints f;obtain⟨t,u,j⟩:=ints2 w rfl;rw[j]at d;refine z ?_;refine sorted_ints (jW d) (.cons x t<|.cons y u .nil) (by show 2<64;decide) λout h a1 a2 k=>?_;obtain⟨A,m⟩:=sortedAll_at r.s.heap [.int x t,.int y u] out;rw[Ec a2 k]at a1;refine o.list g ?_ (λX X=>sortedAll_old) (dd<|le_succ _) m;unfold two;by_cases q:y<x
 ·rw[if_pos q]at a1⊢;exact yM a1
 ·rw[if_neg q]at a1⊢;exact yM a1
theorem FR:nv G (.builtin "sorted") qt:=λs c a r ps vs Q E e g b f=>f.of λy d f=>ω d λp D d=>by
 obtain⟨v,rfl,bj⟩:=uP D b;refine iU d (λd=>ω d λX m d=>?_) λd=>ω d λxs m d=>ω d λis i d=>ω d λys j d=>?_
 ·obtain rfl:=Φ d;refine Θ λz=>?_;replace bj:=(z3 m)▸bj;cases bj with
  |dJ q B=>
  have w:=g.base.fy _ _ q;refine z<|Calls.call_function_entry kind_sorted plain_sorted entry_sorted (args_sorted1 _) ?_;refine υ<|ψ ?_;refine υ<|xZ g.ij.handled w B λκ k=>?_;refine υ<|wpAny_newList ?_<|zero_le _;refine υ<|wpAny_holding<|wpAny_call_entry slot_list_sort ⟨_,(get?_push_size _ rfl:(κ.push<|seqObj "list" ([]:List Value).toArray 0).get? κ.objs.size=some (seqObj "list" ([]:List Value).toArray 0)),rfl⟩ entry_list_sort (list_sort_tree (get?_push_size _ rfl:(κ.push<|seqObj "list" ([]:List Value).toArray 0).get? κ.objs.size=some (seqObj "list" ([]:List Value).toArray 0)) .nil (by simp) λout u a1 a2 F=>⟨_,rfl,?_⟩)<|args_list_sort _;refine ψ ⟨_,rfl,?_⟩;obtain⟨H,A⟩:=sortedHeap_at (h:=κ.push<|seqObj "list" ([]:List Value).toArray 0) (out:=#[]) (get?_push_size _ rfl:(κ.push<|seqObj "list" ([]:List Value).toArray 0).get? κ.objs.size=some (seqObj "list" ([]:List Value).toArray 0))
  have t:out=#[]:=by
   obtain rfl:=List.Perm.eq_nil a2
   cases out with
   |mk l=>cases a1;rfl
  subst t;refine f.list (tk:=r.s.toks) g .nil (λb o e=>?_) ?_ A
  ·have n:=lt_size<|k b o e;rw[sortedHeap_old (ne_of_lt n) (by rw[size_push'];exact lt_succ_of_lt n)];exact get?_push_of_some _<|k b o e
  ·exact kY κ.objs.size (λC=>Exists.elim C λo e=>absurd (lt_size<|k _ _ e)<|Nat.lt_irrefl _) id
 ·obtain rfl:=Φ d
  match is,i,j with
  |[x,y],i,j=>cases j;exact D7 g bj m i f
end
end
structure aN(p:ζ):Prop where
 ne:∀i,p≠.ref i
 rel:∀(G:aB) (r r':ax) v,(∀a o,r.T a=.z o->r'.T a=.z o)->Rel G r p v->Rel G r' p v
theorem aN.none:aN .none:=⟨λx=>nofun,λx x x x x h=>by cases h;exact .none⟩
theorem aN.bool(b:Bool):aN<|.bool b:=⟨λx=>nofun,λx x x x x h=>by cases h;exact .bool _⟩
theorem aN.int(i:Int):aN<|.int i:=⟨λx=>nofun,λx x x x x h=>by cases h;exact .int _ _⟩
theorem aN.str(k:Nat):aN<|.str k:=⟨λx=>nofun,λx x x x x h=>by cases h;exact .str _ _⟩
theorem aN.dJ:aN .dJ:=⟨λx=>nofun,λx x x x z h=>by cases h with|dJ a q=>exact .dJ (z _ _ a) q⟩
theorem aN.list{xs:List ζ}(h:∀x∈xs,aN x):aN<|.list xs:=⟨λy=>nofun,λG r r' y z e=>by cases e with|list a l k=>exact .list (z _ _ a) l λi x v b c=>(h x<|List.mem_of_getElem? b).rel G r r' v z<|k i x v b c⟩
theorem aN.tup{xs:List ζ}(h:∀x∈xs,aN x):aN<|.tup xs:=⟨λy=>nofun,λG r r' y z e=>by cases e with|tup a l k=>exact .tup (z _ _ a) l λi x v b c=>(h x<|List.mem_of_getElem? b).rel G r r' v z<|k i x v b c⟩
theorem aN.inst{c:Nat}{xs:List ζ}(h:∀x∈xs,aN x):aN<|.inst c xs:=⟨λy=>nofun,λG r r' y z e=>by cases e with|inst a q l k=>exact .inst (λκ f=>a κ λb o e=>f b o<|z b o e) q l λi x v d g=>(h x<|List.mem_of_getElem? d).rel G r r' v z<|k i x v d g⟩
inductive fC(J:List Nat):ζ->ζ->Prop
 |ref {j i:Nat}:J[j]?=some i->fC J (.ref j) (.ref i)
 |data {p:ζ}:aN p->fC J p p
inductive h8(J:List Nat):Option ζ->Option ζ->Prop
 |none:h8 J none none
 |some {p q:ζ}:fC J p q->h8 J (some p) (some q)
inductive hx(J:List Nat):Ξ->Ξ->Prop
 |lst {xs ys:List ζ}:All (fC J) xs ys->hx J (.lst xs) (.lst ys)
 |obj {c:Nat} {br b9:List (Option ζ)}:All (h8 J) br b9->hx J (.obj c br) (.obj c b9)
inductive jJ(J:List Nat)(τ:List Ξ):ζ->ζ->Prop
 |old {p q:ζ}:fC J p q->jJ J τ p q
 |lst {j:Nat} {xs ys:List ζ}:J[j]?=none->τ[j]?=some (.lst xs)->xs.length=ys.length->(∀(i:Nat) x y,xs[i]?=some x->ys[i]?=some y->jJ J τ x y)->jJ J τ (.ref j) (.list ys)
 |obj {j c:Nat} {xs ys:List ζ}:J[j]?=none->τ[j]?=some (.obj c (xs.map some))->xs.length=ys.length->(∀(i:Nat) x y,xs[i]?=some x->ys[i]?=some y->jJ J τ x y)->jJ J τ (.ref j) (.inst c ys)
structure k4(J:List Nat)(τ σ:List Ξ):Prop where
 len:τ.length=J.length
 e1:J.Nodup
 at_:∀(j i:Nat),J[j]?=some i->∃m m',τ[j]?=some m/\σ[i]?=some m'/\hx J m m'
 R9:∀(i c:Nat) br,σ[i]?=some (.obj c br)->c≠0
structure nx(J:List Nat)(et σ σ':List Ξ):Prop where
 len:σ'.length=σ.length
 out:∀i,i∉J->σ'[i]?=σ[i]?
 at_:∀(j i:Nat),J[j]?=some i->∃m m',et[j]?=some m/\σ'[i]?=some m'/\hx J m m'
inductive jL(J:List Nat)(con:cn)(ps:List ζ)(σ:List Ξ):Res ζ->Prop
 |ok {r5:List ζ} {τ:List Ξ} {p:ζ} {ρ:List (Option ζ)} {et:List Ξ} {q:ζ} {σ':List Ξ}:All (fC J) r5 ps->k4 J τ σ->con r5 τ=.ok p ⟨ρ,et⟩->jJ J et p q->nx J et σ σ'->jL J con ps σ (.ok q ⟨[],σ'⟩)
 |err {r5:List ζ} {τ:List Ξ} {k:Nat} {ρ:List (Option ζ)} {et:List Ξ} {σ':List Ξ}:All (fC J) r5 ps->k4 J τ σ->con r5 τ=.err k ⟨ρ,et⟩->nx J et σ σ'->jL J con ps σ (.err k ⟨[],σ'⟩)
def c3(c:List ζ->List Nat)(con:cn):cn:=λps σ=>open Classical in if h:∃b,jL (c ps) con ps σ b then Classical.choose h else .stuck
variable {J:List Nat}
theorem LS(c:J.Nodup){j b i:Nat}(h:J[j]?=some i)(κ:J[b]?=some i):j=b:=(getElem?_inj (b8 h).1 c).mp<|h.trans κ.symm
theorem fC.zV(c:J.Nodup){b:ζ}(h:fC J p q)(κ:fC J b q):p=b:=by
 cases h with
 |ref e=>cases κ with
  |ref e'=>rw[LS c e e']
  |data d=>exact(d.ne _ rfl).elim
 |data d=>cases κ with
  |ref e'=>exact(d.ne _ rfl).elim
  |data=>rfl
theorem fC.zW{b:ζ}(h:fC J p q)(κ:fC J p b):q=b:=by
 cases h with
 |ref e=>cases κ with
  |ref e'=>cases e.symm.trans e';rfl
  |data d=>exact(d.ne _ rfl).elim
 |data d=>cases κ with
  |ref e'=>exact(d.ne _ rfl).elim
  |data=>rfl
theorem All.un{R:α->β->Prop}{xs rD:List α}{ys:List β}(u:∀x b y,R x y->R b y->x=b)(h:All R xs ys)(κ:All R rD ys):xs=rD:=List.ext_getElem? λi=>by
 rcases Nat.lt_or_ge i ys.length with q|q
 ·rw[b3<|h.len▸q,b3<|κ.len▸q];exact congrArg some<|u _ _ _ (h.get i _ _ (b3<|h.len▸q)<|b3 q)<|κ.get i _ _ (b3<|κ.len▸q)<|b3 q
 ·rw[List.getElem?_eq_none_iff.mpr<|h.len▸q,List.getElem?_eq_none_iff.mpr<|κ.len▸q]
theorem All.flip{R:α->β->Prop}{xs:List α}{ys:List β}(h:All R xs ys):All (λy x=>R x y) ys xs:=⟨h.len.symm,λi x y a b=>h.get i y x b a⟩
theorem h8.zV(d:J.Nodup){p c q:Option ζ}(h:h8 J p q)(κ:h8 J c q):p=c:=by
 cases h with
 |none=>cases κ;rfl
 |some a=>cases κ with|some b=>rw[a.zV d b]
theorem h8.zW{p q c:Option ζ}(h:h8 J p q)(κ:h8 J p c):q=c:=by
 cases h with
 |none=>cases κ;rfl
 |some a=>cases κ with|some b=>rw[a.zW b]
theorem hx.zV(e:J.Nodup){p d q:Ξ}(h:hx J p q)(κ:hx J d q):p=d:=by
 cases h with
 |lst a=>cases κ with|lst b=>rw[a.un (λx x x u v=>u.zV e v) b]
 |obj a=>cases κ with|obj b=>rw[a.un (λx x x u v=>u.zV e v) b]
theorem hx.zW{p q d:Ξ}(h:hx J p q)(κ:hx J p d):q=d:=by
 cases h with
 |lst a=>cases κ with|lst b=>rw[a.flip.un (λx x x u v=>u.zW v) b.flip]
 |obj a=>cases κ with|obj b=>rw[a.flip.un (λx x x u v=>u.zW v) b.flip]
variable {τ:List Ξ}
theorem jJ.un(h:jJ J τ p q):∀{f:ζ},jJ J τ p f->q=f:=by
 have go:∀{xs ys r:List ζ},xs.length=ys.length->xs.length=r.length->(∀(i:Nat) x y,xs[i]?=some x->ys[i]?=some y->∀{f:ζ},jJ J τ x f->y=f)->(∀(i:Nat) x y,xs[i]?=some x->r[i]?=some y->jJ J τ x y)->ys=r:=λ{xs ys r} l g n k=>List.ext_getElem? λi=>by
  rcases Nat.lt_or_ge i xs.length with q|q
  ·rw[b3<|l▸q,b3<|g▸q];exact congrArg some<|n i _ _ (b3 q) (b3<|l▸q)<|k i _ _ (b3 q)<|b3<|g▸q
  ·rw[List.getElem?_eq_none_iff.mpr<|l▸q,List.getElem?_eq_none_iff.mpr<|g▸q]
 have o:∀{j:Nat} {q:ζ} {P:Prop},J[j]?=none->fC J (.ref j) q->P:=λe h=>by
  cases h with
  |ref e'=>exact cR<|e.symm.trans e'
  |data d=>exact(d.ne _ rfl).elim
 induction h with
 |old a=>
  intro f κ
  cases κ with
  |old b=>exact a.zW b
  |lst e=>exact o e a
  |obj e=>exact o e a
 |lst e m l k n=>
  intro f κ
  cases κ with
  |old b=>exact o e b
  |lst e' m' g s=>cases m.symm.trans m';rw[go l g n s]
  |obj e' m'=>cases m.symm.trans m'
 |obj e m l k n=>
  intro f κ
  cases κ with
  |old b=>exact o e b
  |lst e' m'=>cases m.symm.trans m'
  |obj e' m' g s=>injection m.symm.trans m' with m';injection m' with t u;subst t;obtain rfl:=(List.map_inj_right λz z h=>Φ h).mp u;rw[go l g n s]
theorem k4.un{et:List Ξ}(h:k4 J τ σ)(κ:k4 J et σ):τ=et:=List.ext_getElem? λj=>by
 refine Θ λb=>?_
 cases e:J[j]? with
 |none=>have q:=List.getElem?_eq_none_iff.mp e;refine b ?_;rw[List.getElem?_eq_none_iff.mpr<|h.len▸q,List.getElem?_eq_none_iff.mpr<|κ.len▸q]
 |some i=>obtain⟨m,l,k,d,x⟩:=h.at_ j i e;obtain⟨m',n,f,g,y⟩:=κ.at_ j i e;obtain rfl:=Φ<|d.symm.trans g;refine b ?_;simp only[k,f,x.zV h.e1 y]
theorem nx.un{b:List Ξ}(h:nx J τ σ σ')(κ:nx J τ σ b):σ'=b:=List.ext_getElem? λi=>by
 refine Θ λc=>?_;by_cases q:i∈J
 ·obtain⟨j,e⟩:=List.getElem?_of_mem q;obtain⟨m,l,k,d,x⟩:=h.at_ j i e;obtain⟨m',n,f,g,y⟩:=κ.at_ j i e;cases k.symm.trans f;refine c ?_;rw[d,g,x.zW y]
 ·refine c ?_;rw[h.out i q,κ.out i q]
theorem jL.un{x y:Res ζ}(h:jL J con ps σ x)(κ:jL J con ps σ y):x=y:=by
 refine Θ λc=>?_
 have same:∀{r5 d:List ζ} {τ et:List Ξ},All (fC J) r5 ps->k4 J τ σ->All (fC J) d ps->k4 J et σ->con r5 τ=con d et:=λa s a' s'=>by refine(a.un (λz z z u v=>u.zV s.e1 v) a')▸?_;rw[s.un s']
 cases h with
 |ok a s e f l=>
  cases κ with
  |ok a' s' e' g b=>cases (e.symm.trans<|same a s a' s').trans e';refine c<|(f.un g)▸?_;rw[l.un b]
  |err a' s' e' b=>cases (e.symm.trans<|same a s a' s').trans e'
 |err a s e l=>
  refine c<|Θ λj=>?_
  refine Θ λi=>?_
  clear c
  cases κ with
  |ok a' s' e' g b=>refine i<|j ?_;exact nomatch(e.symm.trans<|same a s a' s').trans e'
  |err a' s' e' b=>cases (e.symm.trans<|same a s a' s').trans e';refine i<|j ?_;rw[l.un b]
theorem jR{b:List ζ->List Nat}{x:Res ζ}(h:jL (b ps) con ps σ x):c3 b con ps σ=x:=by unfold c3;rw[dif_pos<|⟨x,h⟩];exact(Classical.choose_spec<|⟨x,h⟩).un h
theorem HC{h:Heap}{a:Addr}{m:Str->Option Value}(k:c9 h κ a)(n:h.Ns1 a m):κ.Ns1 a m:=by refine Θ λf=>?_;obtain⟨o,es,b,e,d,q⟩:=n;obtain⟨bu,e',s⟩:=k o e;exact f ⟨bu,es,b,e',(s.data λvs c=>Data.noConfusion<|d.symm.trans c).1.trans d,q⟩
theorem e5.inst(x:e5 o bu)(h:∀vs,o.data≠.fields vs):bu.data=o.data/\bu.cls=o.cls/\bu.dict=o.dict:=by
 cases x with
 |same=>exact⟨rfl,rfl,rfl⟩
 |slots=>exact⟨rfl,rfl,rfl⟩
 |exc _ e _ _=>exact(h _ e.1.choose_spec).elim
theorem cT.hidden{r:ax}{i:Nat}{m:Ξ}(x:cT G r i ro m)(v:∀c br,m=.obj c br->c≠0)(u:dq r r')(k:∀b,r.T b=.bO i->r'.T b=.bO i/\c9 r.h r'.h b):cT G r' i ro m:=by
 refine Θ λA=>?_
 cases x with
 |lst t e p=>exact A<|.lst (k _ t).1 (lA e (k _ t).2)<|p.mono u
 |obj t w g p l D=>obtain⟨H,B,C,h,j⟩:=g.ex;obtain⟨o,e,_,f⟩:=D;have f:=f<|v _ _ rfl;obtain⟨bu,e',s⟩:=(k _ t).2 o e;obtain⟨z,E,F⟩:=s.inst f;obtain rfl:=Φ<|e.symm.trans B;exact A<|.obj (k _ t).1 (λcz e=>(k _<|w cz e).1) ⟨⟨bu,e',E.trans C,λc q=>h c<|z.symm.trans q,F.trans j⟩,g.no,λcz e=>⟨(g.dict cz e).1,HC (k _<|w cz e).2 (g.dict cz e).2⟩⟩ (p.imp λn n y=>y.mono u) l ⟨bu,e',λq=>(v _ _ rfl q).elim,λn ds q=>f ds<|z.symm.trans q⟩
theorem cT.seen{r:ax}{i j:Nat}{m m':Ξ}(x:cT G r i ro m)(f:r'.h=r.h)(t:∀b,r.T b=.bO i->r'.T b=.bO j)(k:(∃xs ys,m=.lst xs/\m'=.lst ys/\∀vs,bV G r xs vs->bV G r' ys vs)\/∃c br b9,m=.obj c br/\m'=.obj c b9/\br.length=b9.length/\∀vs,All (hy G r) br vs->All (hy G r') b9 vs):cT G r' j ro m':=by
 rcases k with⟨xs,ys,rfl,rfl,k⟩|⟨c,br,b9,rfl,rfl,l,k⟩
 ·cases x with
  |lst u e g=>exact .lst (t _ u) (f▸e)<|k _ g
 ·cases x with
  |obj u p o g h q=>exact .obj (t _ u) (λcz e=>t _<|p cz e) (f▸o) (k _ g) (l▸h)<|f▸q
theorem All.Hn{R:α->β->Prop}{L:α->hb->Prop}{S:hb->β->Prop}{xs:List α}{ys:List β}{zs:List hb}(l:All L xs zs)(h:All R xs ys)(k:∀x y z,L x z->R x y->S z y):All S zs ys:=⟨l.len.symm.trans h.len,λi z y d b=>l.flip.at_ d λx c q=>k x y z q<|h.get i x y c b⟩
section
variable {r aX:ax}
noncomputable def iw:List Nat->Nat->Option Nat
 |[],_=>none
 |y::ys,x=>if y=x then some 0 else(iw ys x).map (·+1)
theorem kX:∀{l:List Nat} {x k:Nat},iw l x=some k->l[k]?=some x
 |[],_,_,h=>nomatch h
 |y::ys,x,k,h=>by
  unfold iw at h;by_cases q:y=x
  ·rw[if_pos q]at h;cases h;exact congrArg some q
  ·rw[if_neg q]at h;obtain⟨j,b,rfl⟩:=Option.map_eq_some_iff.mp h;exact kX (l:=ys) b
theorem uF:∀{l:List Nat} {x:Nat},x∈l->∃k,iw l x=some k
 |y::ys,x,h=>by
  unfold iw;by_cases q:y=x
  ·rw[if_pos q];exact⟨0,rfl⟩
  ·rw[if_neg q];rcases ae6 h with e|e
   ·exact(q e.symm).elim
   ·obtain⟨k,e⟩:=uF e;exact⟨k+1,by rw[e];rfl⟩
theorem FV(b:J.Nodup){j i:Nat}(h:J[j]?=some i):iw J i=some j:=by obtain⟨k,e⟩:=uF<|List.mem_of_getElem? h;simp only[e,LS b h<|kX e]
theorem Je{i:Nat}(h:iw J i=none):i∉J:=λq=>by obtain⟨k,e⟩:=uF q;exact cR<|h.symm.trans e
noncomputable def ve:Option Nat->Tag
 |some j=>.bO j
 |none=>.no
def gu(J:List Nat):Tag->Tag
 |.bO i=>ve (iw J i)
 |t=>t
theorem S9{o:Option Nat}{x:Obj}(h:ve o=.z x):False:=by cases o<;>cases h
theorem N3{o:Option Nat}(h:ve o=.fr):False:=by cases o<;>cases h
def ax.inside(r:ax)(J:List Nat):ax:=⟨r.s,λb=>gu J<|r.T b,J.map λi=>(r.a6[i]?).getD<|.lst 0⟩
theorem qB{t:Tag}:gu J t=.z o↔t=.z o:=by
 cases t with
 |bO i=>exact⟨λh=>(S9 h).elim,λh=>nomatch h⟩
 |_=>exact Iff.rfl
theorem Kg{t:Tag}{j:Nat}(h:gu J t=.bO j):∃i,t=.bO i/\J[j]?=some i:=by
 cases t with
 |bO i=>
  have h:ve (iw J i)=.bO j:=h
  cases e:iw J i with
  |none=>rw[e]at h;cases h
  |some k=>rw[e]at h;cases h;exact⟨i,rfl,kX e⟩
 |_=>cases h
theorem tZ(b:J.Nodup){i j:Nat}(h:J[j]?=some i):gu J (.bO i)=.bO j:=congrArg ve<|FV b h
theorem zQ{t:Tag}(h:gu J t=.fr):t=.fr:=by
 cases t with
 |bO i=>exact(N3 h).elim
 |_=>exact h
theorem nW(b:∀i∈J,i<r.a6.length){i j:Nat}(h:J[j]?=some i):(r.inside J).a6[j]?=r.a6[i]?:=by show(J.map _)[j]?=_;simp only[List.getElem?_map,h];show some ((r.a6[i]?).getD<|.lst 0)=_;rw[b3<|b i<|List.mem_of_getElem? h];rfl
theorem Rel.inside(f:∀i∈J,i<r.a6.length){v:Value}(l:fC J p q)(h:Rel G r q v):Rel G (r.inside J) p v:=by
 cases l with
 |ref e=>cases h with|ref a=>exact .ref<|(nW f e)▸a
 |data d=>exact d.rel G r _ v (λa o e=>qB.mpr e) h
theorem hy.inside(c:∀i∈J,i<r.a6.length){p q:Option ζ}{v:Option Value}(l:h8 J p q)(h:hy G r q v):hy G (r.inside J) p v:=by
 cases l with
 |none=>exact⟨h.1,λx y e=>cR e⟩
 |some l=>exact⟨h.1,λx y d b=>by cases d;exact(h.2 _ y rfl b).inside c l⟩
theorem hx.kinds{m m':Ξ}(l:hx J m m'):(∃xs ys,m'=.lst xs/\m=.lst ys/\All (fC J) ys xs)\/∃c br b9,m'=.obj c br/\m=.obj c b9/\All (h8 J) b9 br:=by
 cases l with
 |lst a=>exact .inl ⟨_,_,rfl,rfl,a⟩
 |obj a=>exact .inr ⟨_,_,_,rfl,rfl,a⟩
theorem ae0.inside(b:ae0 G r σ)(S:k4 J τ σ)(f:∀i∈J,i<r.a6.length):ae0 G (r.inside J) τ where
 i1:=λa o e=>qB.mpr<|b.i1 a o e
 fy:=λa o e=>b.fy a o<|qB.mp e
 len:=by show(J.map _).length=_;rw[length_map,S.len]
 roots:=λj ro m g d=>by
  have k:=S.len▸(b8 d).1;obtain⟨A,m',n,s,l⟩:=S.at_ j _<|b3 k;obtain rfl:=Φ<|d.symm.trans n;rw[nW f<|b3 k]at g;refine(b.roots _ ro m' g s).seen rfl (λy t=>(congrArg (gu J) t).trans<|tZ S.e1<|b3 k) ?_;rcases l.kinds with⟨xs,ys,rfl,rfl,a⟩|⟨c,p,b9,rfl,rfl,a⟩
  ·exact .inl ⟨xs,ys,rfl,rfl,λvs h=>a.flip.Hn h λx y z l q=>q.inside f l⟩
  ·exact .inr ⟨c,p,b9,rfl,rfl,a.len.symm,λvs h=>a.flip.Hn h λx y z l q=>q.inside f l⟩
 live:=λa q=>b.live a λe=>q<|congrArg (gu J) e
 gens:=b.gens
 os:=b.os
 lH:=λa j e=>by refine Θ λu=>?_;obtain⟨i,g,d⟩:=Kg e;obtain⟨ro,v,w⟩:=b.lH a i g;exact u ⟨ro,(nW f d).trans v,w⟩
noncomputable def zP:Option Obj->Tag
 |some o=>.z o
 |none=>.no
def vf(h:Heap)(b:Addr):Option Nat->Tag
 |some i=>.bO i
 |none=>zP (h.get? b)
def lQ(J:List Nat)(h:Heap)(b:Addr):Tag->Tag
 |.bO j=>vf h b J[j]?
 |t=>t
def hl(J:List Nat):Tag->Bool
 |.bO i=>(iw J i).isNone
 |_=>false
noncomputable def SJ(aX:ax)(o:Option c2):Option Nat->c2
 |some j=>(aX.a6[j]?).getD (.lst 0)
 |none=>o.getD (.lst 0)
def ax.outside(aX r:ax)(J:List Nat):ax:=⟨aX.s,λb=>if hl J (r.T b)=true then r.T b else lQ J aX.h b<|aX.T b,(List.range r.a6.length).map λi=>SJ aX (r.a6[i]?)<|iw J i⟩
theorem kW{t:Tag}(h:hl J t=true):∃i,t=.bO i/\i∉J:=by
 cases t with
 |bO i=>exact⟨i,rfl,Je<|Option.isNone_iff_eq_none.mp h⟩
 |_=>exact w6 h
theorem Br{i:Nat}(h:i∉J):hl J (.bO i)=true:=by
 show(iw J i).isNone=true
 cases e:iw J i with
 |none=>rfl
 |some k=>exact(h<|List.mem_of_getElem?<|kX e).elim
theorem Fw{b:Addr}(h:hl J (r.T b)=true):(r.inside J).T b=.no:=by
 obtain⟨i,e,q⟩:=kW h
 refine(?_:gu J (r.T b)=.no)
 refine e▸((?_:ve (iw J i)=.no))
 cases e:iw J i with
 |none=>rfl
 |some k=>exact(q<|List.mem_of_getElem?<|kX e).elim
theorem m9{b:Addr}(h:hl J (r.T b)=true):(aX.outside r J).T b=r.T b:=if_pos h
theorem js{b:Addr}(h:¬hl J (r.T b)=true):(aX.outside r J).T b=lQ J aX.h b (aX.T b):=if_neg h
theorem Ss{i j:Nat}(b:i<r.a6.length)(e:iw J i=some j)(c:j<aX.a6.length):(aX.outside r J).a6[i]?=aX.a6[j]?:=by show((List.range r.a6.length).map _)[i]?=_;simp only[List.getElem?_map,List.getElem?_range b];show some (SJ aX (r.a6[i]?)<|iw J i)=_;rw[e];show some ((aX.a6[j]?).getD<|.lst 0)=_;rw[b3 c];rfl
theorem zc{i:Nat}(h:i∉J):(aX.outside r J).a6[i]?=r.a6[i]?:=by
 show((List.range r.a6.length).map _)[i]?=_;rcases Nat.lt_or_ge i r.a6.length with q|q
 ·rw[List.getElem?_map,List.getElem?_range q];show some (SJ aX (r.a6[i]?)<|iw J i)=_;cases e:iw J i with
  |none=>rw[b3 q];rfl
  |some k=>exact(h<|List.mem_of_getElem?<|kX e).elim
 ·rw[List.getElem?_eq_none_iff.mpr q,List.getElem?_eq_none_iff.mpr (by rw[length_map,length_range];exact q)]
end
section
variable {r aX:ax}{et:List Ξ}
structure ew(G:aB)(J:List Nat)(r aX:ax)(σ τ et σ':List Ξ):Prop where
 b:ae0 G r σ
 s:k4 J τ σ
 bj:ae0 G aX et
 st:bt (r.inside J) aX
 d7:∀b,aX.T b≠.fr
 s':nx J et σ σ'
theorem ew.lt(x:ew G J r aX σ τ et σ'):∀i∈J,i<r.a6.length:=λi h=>by refine Θ λd=>?_;obtain⟨j,e⟩:=List.getElem?_of_mem h;obtain⟨m,m',_,c,_⟩:=x.s.at_ j i e;refine d ?_;rw[x.b.len];exact(b8 c).1
theorem ew.abU(x:ew G J r aX σ τ et σ'){j i:Nat}(e:J[j]?=some i):j<aX.a6.length:=by obtain⟨m,m',c,_⟩:=x.s'.at_ j i e;rw[x.bj.len];exact(b8 c).1
theorem ew.kq(x:ew G J r aX σ τ et σ'){a:Addr}(h:hl J (r.T a)=true):aX.T a=.no/\c9 r.h aX.h a:=by refine Θ λc=>?_;obtain⟨i,e,_⟩:=kW h;exact c ⟨x.st.no a (Fw h)<|x.b.alive e Tag.noConfusion,x.st.keep a<|Fw h⟩
theorem ew.Tz(x:ew G J r aX σ τ et σ'){a:Addr}(h:aX.T a≠.no):(aX.outside r J).T a=lQ J aX.h a (aX.T a):=js λq=>h (x.kq q).1
theorem ew.z(x:ew G J r aX σ τ et σ')(a:Addr)(o:Obj)(e:aX.T a=.z o):(aX.outside r J).T a=.z o:=(x.Tz λq=>Tag.noConfusion<|e.symm.trans q).trans<|congrArg (lQ J aX.h a) e
theorem ew.bO(x:ew G J r aX σ τ et σ'){a:Addr}{j i:Nat}(h:J[j]?=some i)(e:aX.T a=.bO j):(aX.outside r J).T a=.bO i:=by simp only[x.Tz λq=>Tag.noConfusion<|e.symm.trans q,e];show vf aX.h a J[j]?=_;rw[h];rfl
theorem ew.new(x:ew G J r aX σ τ et σ'){a:Addr}{j:Nat}(h:J[j]?=none)(e:aX.T a=.bO j)(q:aX.h.get? a=some o):(aX.outside r J).T a=.z o:=by simp only[x.Tz λq=>Tag.noConfusion<|e.symm.trans q,e];show vf aX.h a J[j]?=_;rw[h];show zP (aX.h.get? a)=_;rw[q];rfl
theorem ew.m(x:ew G J r aX σ τ et σ'){j i:Nat}(h:J[j]?=some i):(aX.outside r J).a6[i]?=aX.a6[j]?:=Ss (x.lt i<|List.mem_of_getElem? h) (FV x.s.e1 h)<|x.abU h
theorem ew.mono(x:ew G J r aX σ τ et σ'):dq r (aX.outside r J)where
 z:=λa o e=>x.z a o<|x.st.mono.z a o<|qB.mpr e
 m:=λi y e=>by
  by_cases q:i∈J
  ·obtain⟨j,h⟩:=List.getElem?_of_mem q;rw[x.m h];exact x.st.mono.m j y (by rw[nW x.lt h];exact e)
  ·rw[zc q];exact e
theorem ew.rel(x:ew G J r aX σ τ et σ'){v:Value}(l:fC J p q)(h:Rel G aX p v):Rel G (aX.outside r J) q v:=by
 cases l with
 |ref e=>cases h with|ref a=>exact .ref<|(x.m e)▸a
 |data d=>exact d.rel G aX _ v x.z h
theorem ew.YS(x:ew G J r aX σ τ et σ'){p q:Option ζ}{v:Option Value}(l:h8 J p q)(h:hy G aX p v):hy G (aX.outside r J) q v:=by
 cases l with
 |none=>exact⟨h.1,λx y e=>cR e⟩
 |some l=>exact⟨h.1,λy z d c=>by cases d;exact x.rel l<|h.2 _ z rfl c⟩
theorem ew.base(x:ew G J r aX σ τ et σ'):ae0 G (aX.outside r J) σ' where
 i1:=λa o e=>x.mono.z a o<|x.b.i1 a o e
 fy:=λa o e=>by
  by_cases h:hl J (r.T a)=true
  ·obtain⟨i,e',_⟩:=kW h;exact Tag.noConfusion<|e'.symm.trans<|(m9 h).symm.trans e
  ·have e:=(js h).symm.trans e;cases d:aX.T a with
   |no=>rw[d]at e;cases e
   |z bu=>rw[d]at e;cases e;exact x.bj.fy a o d
   |fr=>rw[d]at e;cases e
   |bO j=>
    rw[d]at e
    have e:vf aX.h a J[j]?=.z o:=e
    cases f:J[j]? with
    |some i=>rw[f]at e;cases e
    |none=>
     rw[f]at e
     have e:zP (aX.h.get? a)=.z o:=e
     cases n:aX.h.get? a with
     |none=>rw[n]at e;cases e
     |some bu=>rw[n]at e;cases e;exact n
 len:=by show((List.range r.a6.length).map _).length=_;rw[length_map,length_range,x.b.len,x.s'.len]
 roots:=λi ro m p g=>by
  by_cases q:i∈J
  ·obtain⟨j,h⟩:=List.getElem?_of_mem q;obtain⟨E,m',A,C,l⟩:=x.s'.at_ j i h;obtain rfl:=Φ<|g.symm.trans C;rw[x.m h]at p;refine(x.bj.roots j ro E p A).seen rfl (λy t=>x.bO h t) ?_;cases l with
   |lst a=>exact .inl ⟨_,_,rfl,rfl,λvs k=>a.Hn k λX X X l q=>x.rel l q⟩
   |obj a=>exact .inr ⟨_,_,_,rfl,rfl,a.len,λvs k=>a.Hn k λX X X l q=>x.YS l q⟩
  ·rw[zc q]at p;replace g:=(x.s'.out i q)▸g;refine(x.b.roots i ro m p g).hidden (λc B z=>x.s.R9 i c B<|z▸g) x.mono λy t=>?_;have h:hl J (r.T y)=true:=by rw[t];exact Br q
   exact⟨(m9 h).trans t,(x.kq h).2⟩
 live:=λa q=>by
  refine Θ λw=>?_;by_cases h:hl J (r.T a)=true
  ·obtain⟨i,e',_⟩:=kW h;exact w<|(x.kq h).2.live<|x.b.alive e' Tag.noConfusion
  ·refine w<|x.bj.live a λe=>q ?_;exact(js h).trans<|congrArg (lQ J aX.h a) e
 gens:=x.bj.gens
 os:=x.bj.os
 lH:=λa i e=>by
  by_cases h:hl J (r.T a)=true
  ·obtain⟨D,e',q⟩:=kW h;have e:=(m9 h).symm.trans e;cases e'.symm.trans e;obtain⟨ro,u,v⟩:=x.b.lH a i e;exact⟨ro,(zc q).trans u,v⟩
  ·have e:=(js h).symm.trans e;cases d:aX.T a with
   |no=>rw[d]at e;cases e
   |z bu=>rw[d]at e;cases e
   |fr=>rw[d]at e;cases e
   |bO j=>
    rw[d]at e
    have e:vf aX.h a J[j]?=.bO i:=e
    cases f:J[j]? with
    |none=>rw[f]at e;have e:zP (aX.h.get? a)=.bO i:=e;cases n:aX.h.get? a<;>rw[n]at e<;>cases e
    |some D=>replace e:=f▸e;cases e;obtain⟨ro,u,v⟩:=x.bj.lH a j d;exact⟨ro,(x.m f).trans u,v⟩
theorem ew.fi(x:ew G J r aX σ τ et σ')(d:∀b,r.T b≠.fr):bt r (aX.outside r J)/\∀b,(aX.outside r J).T b≠.fr:=by
 have d7:∀b,(aX.outside r J).T b≠.fr:=λb e=>by
  by_cases h:hl J (r.T b)=true
  ·exact d b<|(m9 h).symm.trans e
  ·have e:=(js h).symm.trans e;cases c:aX.T b with
   |no=>rw[c]at e;cases e
   |z bu=>rw[c]at e;cases e
   |fr=>exact x.d7 b c
   |bO j=>
    rw[c]at e
    have e:vf aX.h b J[j]?=.fr:=e
    cases f:J[j]? with
    |some i=>rw[f]at e;cases e
    |none=>replace e:=f▸e;have e:zP (aX.h.get? b)=.fr:=e;cases g:aX.h.get? b<;>rw[g]at e<;>cases e
 refine⟨⟨x.mono,λa e=>x.st.keep a<|congrArg (gu J) e,λa e l=>?_,λa=>⟨λe=>(d a e).elim,λe=>(d7 a e.1).elim⟩,λa i e=>?_⟩,d7⟩
 ·exact(js<|(λa e q=>by rw[e]at q;exact w6 q) a e).trans<|congrArg (lQ J aX.h a)<|x.st.no a (congrArg (gu J) e) l
 ·by_cases q:i∈J
  ·obtain⟨j,h⟩:=List.getElem?_of_mem q;exact x.bO h<|x.st.bO a j<|(congrArg (gu J) e).trans<|tZ x.s.e1 h
  ·exact(m9<|(e)▸Br q).trans e
theorem ew.IL(x:ew G J r aX σ τ et σ')(h:jJ J et p q):∀{v:Value},Rel G aX p v->Rel G (aX.outside r J) q v:=by
 induction h with
 |old l=>intro v h;exact x.rel l h
 |@lst j xs ys e m l k A=>
  intro v h
  refine Θ λK=>?_
  cases h with
  |ref a=>
   obtain⟨ro,Γ,E,y⟩:=x.bj.root m a
   cases y with
   |lst t g C=>
    subst E;refine K ?_
    exact .list (x.new e t g) (l.symm.trans C.len) λi y w B I=>by
     have n:i<xs.length:=by rw[l];exact(b8 B).1
     exact A i _ y (b3 n) B<|C.get i _ w (b3 n) I
 |@obj j c xs ys e m l k A=>
  intro v h
  cases h with
  |ref a=>
   refine Θ λH=>?_
   obtain⟨ro,Γ,E,y⟩:=x.bj.root m a
   clear a
   cases y with
   |@obj b d _ _ vs t Z L C O qJ=>
    subst E;obtain⟨o,S,T,U,N⟩:=L.ex;have u:vs.length=xs.length:=by rw[←C.len,length_map]
    have P:∀i (n:i<xs.length),∃w,vs[i]?=some (some w)/\Rel G aX xs[i] w:=λi n=>by refine Θ λR=>?_;have z:=C.get i (some xs[i]) _ (by rw[List.getElem?_map,b3 n];rfl)<|b3 (u▸n:i<vs.length);obtain⟨w,e⟩:=Option.isSome_iff_exists.mp z.1.symm;exact R ⟨w,by rw[(b3 (u▸n:i<vs.length)),e],z.2 _ _ rfl e⟩
    obtain⟨ws,vM⟩:∃ws:List Value,vs=ws.map some:=by
     refine⟨vs.filterMap id,List.ext_getElem? λi=>?_⟩
     have:∀(l:List<|Option Value),(∀y∈l,∃w,y=some w)->(l.filterMap id).map some=l:=λl=>by
      induction l with
      |nil=>intro _;rfl
      |cons y l A=>intro h;obtain⟨w,rfl⟩:=h y<|.head _;refine(?_:some w::(l.filterMap id).map some=_);rw[A λy m=>h y<|.tail _ m]
     rw[this vs λy m=>by refine Θ λK=>?_;obtain⟨i,f⟩:=List.getElem?_of_mem m;have n:=u▸(b8 f).1;obtain⟨w,e,_⟩:=P i n;refine K ?_;exact⟨w,Φ<|f.symm.trans e⟩]
    subst vM;refine H ?_;refine .inst (λh z=>?_) (by rw[←l];rw[length_map]at O;exact O) (by rw[←l];rw[length_map]at u;exact u.symm) λi y w B I=>?_
    ·refine⟨o,(z b o<|x.new e t S),T,U,?_⟩;rw[Fh];refine Θ λM=>?_;cases d with
     |none=>exact M<|.inl ⟨N,L.no rfl⟩
     |some D=>obtain⟨Y,bu,es,V,X,Q⟩:=L.dict D rfl;exact M<|.inr ⟨D,N,Y,bu,es,V,z D bu<|x.new e (Z D rfl) X,Q⟩
    ·have n:i<xs.length:=by rw[l];exact(b8 B).1
     refine Θ λH=>?_;obtain⟨cv,e',F⟩:=P i n;replace e':=List.getElem?_map▸e';replace e':=I▸e';cases e';exact H<|A i _ y (b3 n) B F
theorem BP{i:Nat}{m:Ξ}{a:Addr}{vs:Array Value}(x:cT G r i ro m)(p:∀c b,m=.obj c b->c≠0)(h:ro.own a)(e:r.h.get? a=some o):∀vs,o.data≠.fields vs:=λvs d=>by
 cases x with
 |lst t g k=>cases h;cases g.symm.trans e;exact Data.noConfusion d
 |obj t q n k l s=>
  clear t q;rcases h with rfl|rfl
  ·obtain⟨bu,e',_,f⟩:=s;obtain rfl:=Φ<|e'.symm.trans e;exact f (p _ _ rfl) vs d
  ·obtain⟨_,bu,es,u,e',j,_⟩:=n.dict a rfl;obtain rfl:=Φ<|e'.symm.trans e;exact Data.noConfusion<|j.symm.trans d
theorem ew.loose(x:ew G J r aX σ τ et σ'){a:Addr}{vs:Array Value}(t:aX.T a=.no\/aX.T a=.fr)(e:aX.h.get? a=some o)(d:o.data=.fields vs):(aX.outside r J).T a=.no\/(aX.outside r J).T a=.fr:=by
 refine Θ λu=>?_;by_cases h:hl J (r.T a)=true
 ·obtain⟨i,e',q⟩:=kW h;refine Θ λl=>?_;obtain⟨ro,k,n⟩:=x.b.lH a i e';have f:=(b8 k).1;obtain⟨bu,g⟩:=x.b.alive e' Tag.noConfusion;obtain⟨v,p,du⟩:=(x.kq h).2 bu g;obtain rfl:=Φ<|p.symm.trans e;refine l<|l ?_;exact((BP (vs:=vs) (x.b.roots i ro _ k<|b3 (x.b.len▸f:i<σ.length)) (λc j z=>x.s.R9 i c j<|z▸(b3 (x.b.len▸f:i<σ.length))) n g) vs<|(du.data<|BP (vs:=vs) (x.b.roots i ro _ k<|b3 (x.b.len▸f:i<σ.length)) (λc j z=>x.s.R9 i c j<|z▸(b3 (x.b.len▸f:i<σ.length))) n g).1.symm.trans d).elim
 ·exact u<|.inl<|(js h).trans<|congrArg (lQ J aX.h a)<|t.resolve_right<|x.d7 a
theorem ew.aau(x:ew G J r aX σ τ et σ'){v:Value}(h:Flying G k aX v):Flying G k (aX.outside r J) v:=by
 cases h with
 |mk e d B vs m t f C i c l p A w=>exact .mk e d B vs m t f C i c (x.loose l f c) (p.imp id λg=>g.elim λT u=>u.elim λq y=>by obtain⟨_,_,j,n,_⟩:=y.ex;exact⟨T,q,y.ex,y.ne,x.loose y.tag j n⟩) (λh z=>A h λa o e=>z a o<|x.z a o e) w
theorem dG.loc{f:Value}{p:List ζ->List Nat}(F:dG G K f con):dG G K f<|c3 p con:=λA r σ ps vs Q E w y b d I c=>by
 refine Θ λu=>?_;by_cases hex:∃g,jL (p ps) con ps σ g
 ·obtain⟨g,h⟩:=hex;replace c:=(jR h)▸c;generalize p ps=J at h
  have start:∀{z:List ζ} {τ:List Ξ},All (fC J) z ps->k4 J τ σ->(∀i∈J,i<r.a6.length)/\bV G (r.inside J) z vs:=λa s=>by
   have lt:∀i∈J,i<r.a6.length:=λi h=>by refine Θ λD=>?_;obtain⟨j,e⟩:=List.getElem?_of_mem h;obtain⟨m,m',_,C,_⟩:=s.at_ j i e;refine D ?_;rw[b.len];exact(b8 C).1
   exact⟨lt,a.flip.Hn I λX X X l q=>q.inside lt l⟩
  cases h with
  |ok a s e B s'=>refine u<|F A (r.inside J) _ _ vs Q E w (y.keep λq t l=>⟨t.imp (congrArg<|gu J)<|congrArg<|gu J,.of λX e=>e⟩) (b.inside s (start a s).1) (λb e=>d b<|zQ e) (start a s).2 ?_;refine e▸?_;intro v aX bj n k o;have x:ew G J r aX _ _ _ _:=⟨b,s,bj,n,k,s'⟩;exact c v (aX.outside r J) x.base (x.fi d).1 (x.fi d).2<|x.IL B o
  |err a s e s'=>obtain⟨lt,H⟩:=start a s;refine u<|F A (r.inside J) _ _ vs Q E w (y.keep λq t l=>⟨t.imp (congrArg<|gu J)<|congrArg<|gu J,.of λX e=>e⟩) (b.inside s lt) (λb e=>d b<|zQ e) H ?_;refine e▸?_;intro v aX bj n k L;have x:ew G J r aX _ _ _ _:=⟨b,s,bj,n,k,s'⟩;exact c v (aX.outside r J) x.base (x.fi d).1 (x.fi d).2<|x.aau L
 ·unfold c3 at c;rw[dif_neg hex]at c;exact u c.elim
end
variable {ai:aeY}
section
variable {c:Fr s}
theorem aw.neg{i:Int}{b d:Pos}:aw s (.UnaryOp .USub (.Constant (.int i) k b) d)<|eg<|.int<|-i:=λc a r Q E g p=>by exact υ<|wpAny_mkInt<|υ<|wpAny_standAt<|wpAny_holding<|P.neg_int<|p.uM g<|.int (-i) _
def Ik(dC d5:Den):Den:=λa=>(dC a).bind λp a=>(Res.of<|(k9 p).bind λb=>some (b,a)).bind λb a=>if b then .ok (.bool true) a else d5 a
def CK(dC d5:Den):Den:=λa=>(dC a).bind λp a=>(Res.of<|(k9 p).bind λb=>some (b,a)).bind λb a=>if b then d5 a else .ok (.bool false) a
theorem aw.ack{i f:Expr}{dC d5:Den}(j:aw s i dC)(k:aw s f d5):aw s (.BoolOp .Or [i,f] pos)<|Ik dC d5:=λc a r Q E g p=>
 BoolOp_or (j.then g p λv aX m a1 e l bj p=>Res.qu p λy d p=>ω d λb h d=>by
  obtain rfl:=Φ d
  obtain rfl:=bj.CA h
  refine wpAny_truthy_bool ?_
  cases b with
  |true=>exact p.now e<|.bool true
  |false=>exact BoolOp_one<|k c a1 aX Q E e p)
theorem aw.XA{i f:Expr}{dC d5:Den}(j:aw s i dC)(k:aw s f d5):aw s (.BoolOp .And [i,f] pos)<|CK dC d5:=λc a r Q E g p=>
 BoolOp_and (j.then g p λv aX m a1 e l bj p=>Res.qu p λy d p=>ω d λb h d=>by
  obtain rfl:=Φ d
  obtain rfl:=bj.CA h
  refine wpAny_truthy_bool ?_
  cases b with
  |false=>exact p.now e<|.bool false
  |true=>exact BoolOp_one<|k c a1 aX Q E e p)
def tY(is:List Nat):gx:=λp ρ=>(nD p).bind λps=>if ps.length=is.length then if ps.length<=100 then zM is.reverse ps.reverse ρ else none else none
abbrev sq(ai:aeY)(n:Str)(i:Nat):Prop:=ai.names[i]?=some n/\HE ai n
theorem bindAll:∀{ns:List Str} {is:List Nat},All (sq s.ai) ns is->∀(c:Fr s) (a:aD) (ps:List ζ) (vs:List Value) (r:ax) (d:List<|Option ζ) (Q:Unit->Shared->Prop) (E:Value->Shared->Prop),aL c a r->bV s.G r ps vs->zM is ps a.ρ=some d->(∀r',aL c ⟨d,a.σ⟩ r'->bt r r'->Q () r'.s)->
 wpAny s.G.M c.A (assignInOrder (ns.map λn=>bindName c.env n) vs) Q E r.s:=by
 intro o
 induction o with
 |nil=>
  intro is b c a ps vs r d Q E g f e h
  obtain rfl:=length_eq_zero_iff.mp b.len.symm
  cases ps with
  |cons=>exact cR e
  |nil=>obtain rfl:=Φ e;exact ψ<|h r g g.refl
 |cons n ns l=>
  intro is b c a ps vs r d Q E g f e h
  cases is with
  |nil=>exact Of b.len
  |cons i is=>
  cases ps with
  |nil=>exact cR e
  |cons p ps=>
   cases vs with
   |nil=>exact Of f.len
   |cons v vs=>refine(?_:wpAny _ _ (do holding _ (bindName c.env n v);assignInOrder (ns.map λn=>bindName c.env n) vs) _ _ _);exact υ<|wpAny_holding<|PyProof.Rows.bindName_<|lP g b.head.1 b.head.2 f.head λaX k j=>l b.tail c _ ps vs aX d Q E k (f.tail.mono j.mono) e λr' m q=>h r' m<|g.fi k j q
theorem a4.swap{m:Pos}{ns:List Str}(h:aw s e d)(n:All (sq s.ai) ns is)
 (F:∀env:Env,env.scope=s.ai.scope->swappedStores [.Tuple es k m] e env=pure (some ns)) (w:∀env,swapsWithSole [.Tuple es k m] e pos.line env=pure false):a4 s (.Assign [.Tuple es k m] e pos)<|uv (tY is) d:=λc a r Q E g p=>
 Assign_Tuple_swapped (h.then g p λv aX L a1 i K bj p=>p.of λy l p=>ω l λB f l=>ω f λps G f=>bY f λH f=>bY f λJ f=>by
  refine Θ λI=>?_;obtain rfl:=Φ l;replace bj:=(jO G)▸bj;obtain⟨x,vs,rfl,z,q⟩:=bj.qE;have j:ns.length=vs.toArray.size:=by rw[n.len,List.size_toArray,←q.len,H]
  refine I<|j▸?_;refine wpAny_unpackItems_tuple i.ij.handled ⟨_,i.base.fy _ _ z,rfl,_,rfl⟩ λκ D=>?_;obtain⟨u,t⟩:=i.grow (λb o e=>D b o (ne_of_lt<|lt_size e) e) (dd<|Nat.le_refl _)<|.inl rfl;exact bindAll n.reverse c a1 ps.reverse vs.reverse _ B (λX=>Q .next) E u (q.mono t.mono).reverse f λr' A C=>p .next r' A (i.fi u t C) .next) (w _) (F _ g.ok.scope)
noncomputable def PF{α:Type}(d:α)(nm:Str->Pos->α)(st:Expr->Pos->α)(e:Expr):α:=Expr.casesOn (motive_1:=λx=>α) e (λx x x=>d) (λx x x=>d) (λx x x x=>d) (λx x x=>d) (λx x x x=>d) (λx x x x=>d) (λx x x=>d) (λx x x=>d) (λx x x x=>d) (λx x x x=>d) (λx x x x x=>d) (λx x x x=>d) (λx x=>d) (λx x=>d) (λx x=>d) (λx x x x=>d) (λx x x x=>d) (λx x x x=>d) (λx x=>d) (λx x x=>d) (λx x x=>d) (λx x x=>d) st nm (λx x=>d) (λx x x=>d) λx x x x=>d
def zK(ai:aeY)(cC vs:List Expr)(ns:List Str):Bool:=(cC.length==2||cC.length==3)&&vs.length==cC.length&&!(vs.any<|PF false (λx x=>false) λx x=>true)&&cC.filterMap (PF none (λid pos=>if ai.scope.names.lookup id==some .local&&pos.line==(cC.head?.map (·.pos.line)).getD 0 then some id else none) λx x=>none)==ns&&ns.length==cC.length&&ns.eraseDups.length==ns.length&&!(vs.all<|foldedForSure 8)&&!(vs.all<|constantsAlone 8)
theorem N1{cC vs:List Expr}{ns:List Str}{s:Nat}{p n:Pos}(i:ai.scope.kind=.function)(h:zK ai cC vs ns=true)(env:Env)(j:env.scope=ai.scope):swappedStores [.Tuple cC k p] (.Tuple vs s n) env=pure (some ns):=by
 refine Θ λu=>?_;rw[←j]at i;unfold zK at h;rw[←j]at h;obtain⟨h,o⟩:=bf h;obtain⟨h,r⟩:=bf h;obtain⟨h,d⟩:=bf h;obtain⟨h,c⟩:=bf h;obtain⟨h,b⟩:=bf h;obtain⟨h,m⟩:=bf h;obtain⟨t,g⟩:=bf h;have b:=eq_of_beq b;have c:=eq_of_beq c;have d:=eq_of_beq d;have g:=eq_of_beq g;have l:env.blockKind=.function:=by unfold Env.blockKind;rw[i];rfl
 refine u ?_;refine(if_neg (by rw[t,g,l];simp)).trans<|(if_neg λq=>Bool.noConfusion<|((Bool.not_eq_true' _).mp m).symm.trans<|(congrArg (λf=>vs.any f) (funext λe=>by cases e<;>first|exact Eq.refl false|exact Eq.refl true)).trans q).trans ?_;refine Eq.trans (congrArg (λns=>(if(ns.length !=cC.length||ns.eraseDups.length !=ns.length)=true then pure none else if vs.all (foldedForSure 8)=true then pure none else if vs.all (constantsAlone 8)=true then(do unsupported "assign.tuple-of-constant-expressions:order-of-the-stores";pure (some ns))else pure (some ns):Sem<|Option<|List Str))<|Eq.trans (congrArg (λf=>cC.filterMap f)<|funext λe=>?_) b) ?_
 ·cases e<;>first|exact Eq.refl none|rfl
 refine(if_neg (by rw[d,c];simp)).trans<|(if_neg λq=>Bool.noConfusion<|((Bool.not_eq_true' _).mp r).symm.trans q).trans ?_;exact if_neg λq=>Bool.noConfusion<|((Bool.not_eq_true' _).mp o).symm.trans q
end
structure Tab where
 fn:Str->Option cn
 nw:Str->Option cn
 mt:Nat->Str->Option cn
 gl:Str->Option ζ
 Nk:Str->Option (ζ->Option ζ)
 ex:Bool
structure Cfg where
 bO:List Str
 d:Bool
 t:Bool
structure Ev where
 e:Expr->Den
 n:Expr->aI
 b:Expr->dP
 i:Expr->aI
 as:List Expr->aI
 z2:List Expr->aI
 st:Stmt->bL
 jc:List Stmt->bL
noncomputable def aK{β:Type}:aD->Res β:=λx=>.stuck
def bo{β:Type}(b:Bool)(d:aD->Res β):aD->Res β:=match b with
 |true=>d
 |false=>aK
def opt{α β:Type}(o:Option α)(f:α->aD->Res β):aD->Res β:=match o with
 |some x=>f x
 |none=>aK
theorem aP.aK{t:Env->Sem α}{R:ax->β->α->Prop}:aP s t Internal.aK R:=λc a r Q E g p=>p.elim
theorem aP.bo{t:Env->Sem α}{R:ax->β->α->Prop}{b:Bool}{d:aD->Res β}(h:b=true->aP s t d R):aP s t (Internal.bo b d) R:=by
 cases b with
 |true=>exact h rfl
 |false=>exact aP.aK
theorem aP.opt{t:Env->Sem α}{R:ax->β->α->Prop}{o:Option hb}{f:hb->aD->Res β}(h:∀x,o=some x->aP s t (f x) R):aP s t (Internal.opt o f) R:=by
 cases o with
 |none=>exact aP.aK
 |some x=>exact h x rfl
theorem b2.aK:b2 s e Internal.aK:=λc a r Q E g p=>p.elim
theorem b2.bo{b:Bool}{d:aI}(h:b=true->b2 s e d):b2 s e<|Internal.bo b d:=by
 cases b with
 |true=>exact h rfl
 |false=>exact b2.aK
theorem b2.opt{o:Option hb}{f:hb->aI}(h:∀x,o=some x->b2 s e (f x)):b2 s e<|Internal.opt o f:=by
 cases o with
 |none=>exact b2.aK
 |some x=>exact h x rfl
structure dK(s:d8)(X:Ev):Prop where
 e:∀x,aw s x<|X.e x
 n:∀x,b2 s x<|X.n x
 b:∀x,dh s x<|X.b x
 i:∀x,iJ s x (X.i x)\/X.i x=aK
 as:∀x,eb s x<|X.as x
 z2:∀x,eb s x<|X.z2 x
 st:∀x,a4 s x<|X.st x
 jc:∀x,gG s x<|X.jc x
inductive OP(G:aB)(K:Nat)(x:Str)(con:cn):Prop
 |mk (c fI:_):w7 G c fI->G.cJ x=some (.ref (G.cls c))->dG G K (.ref (G.cls c)) con->OP G K x con
inductive Oz(G:aB)(K:Nat):Prop
 |mk (fI ci gQ:_):qa G fI->B8 G->d3 G gQ fI ci->sm ci->G.cJ "LispSignal"=some (.ref (G.cls 0))->gQ+1<=K->Oz G K
inductive OH(G:aB)(K:Nat)(x:Str)(k):Prop
 |mk (f gQ:_):G.cJ x=some (.ref f)->so G gQ f k->gQ+1<=K->OH G K x k
structure fs(G:aB)(K:Nat)(cm:Tab):Prop where
 fn:∀x con,cm.fn x=some con->∃f,G.cJ x=some (.ref f)/\d3 G K f con
 nw:∀x con,cm.nw x=some con->OP G K x con
 mt:∀c x con,cm.mt c x=some con->mO G K c x con
 gl:∀x p,cm.gl x=some p->sl G x p
 Nk:∀x k,cm.Nk x=some k->OH G K x k
 ex:cm.ex=true->Oz G K
 bi:∀x:Str,x∈(["len","max","min","abs","sorted","list","range"]:List Str)->G.cJ x=none
 cls:sk G
 L6:rH G
noncomputable def mG(ai:aeY)(x:Str):Bool:=(match ai.scope.names.lookup x with|some .globalImplicit=>true|_=>false)&&!(x==("__debug__":Str))
theorem eC{x:Str}(h:mG ai x=true):ai.scope.names.lookup x=some .globalImplicit/\(x==("__debug__":Str))=false:=by
 obtain⟨b,c⟩:=bf h
 refine⟨?_,(Bool.not_eq_true' _).mp c⟩
 cases e:ai.scope.names.lookup x with
 |none=>rw[e]at b;exact absurd b Bool.false_ne_true
 |some k=>rw[e]at b;cases k<;>first|rfl|exact absurd b Bool.false_ne_true
variable {cm:Tab}{X:Ev}{cf:Cfg}
def E4(c:Const):Den:=c.casesOn (eg .none) (λb=>eg<|.bool b) (λi=>eg<|.int i) (λy=>aK) (λy y=>aK) (λx=>opt (fl afk x) λj=>eg<|.str j) (λy=>aK) aK
theorem E5(c:Const)(k:Nat)(pos:Pos):aw s (.Constant c k pos)<|E4 c:=by
 cases c with
 |none=>exact aw.U6
 |bool b=>exact aw.bool
 |int i=>exact aw.int
 |str x=>exact aP.opt λj h=>aw.str (by unfold strOf;rw[getD_eq_getElem?_getD,fE h];rfl)
 |_=>exact aP.aK
def afL(cm:Tab)(ai:aeY)(x:Str):Den:=match fl ai.names x with
 |some i=>bo (!(x==("__debug__":Str))) (hC i)
 |none=>bo (mG ai x) (opt (cm.gl x) eg)
theorem IA(T:fs s.G s.K cm)(x:Str)(pos:Pos):aw s (.Name x pos)<|afL cm s.ai x:=by
 unfold afL
 cases h:fl s.ai.names x with
 |some i=>exact aP.bo λd=>aw.var (fE h)<|(Bool.not_eq_true' _).mp d
 |none=>exact aP.bo λb=>aP.opt λp c=>aw.glob (T.gl _ _ c) (eC b).1 (eC b).2
noncomputable def oC:fh:=λx x x=>.stuck
theorem Gk{f:Value->Value->Sem Value}:c6 G f oC:=λs c a r p q v w Q E e g bj bX b=>b.elim
def aeX(op:Operator):fh:=op.casesOn (mB DH tx) Sn (mB xh tA) oC oC af7 oC oC oC oC oC oC LW
theorem H0(op:Operator):c6 G (binaryOp op)<|aeX op:=by
 cases op with
 |Add=>exact Rn
 |Sub=>exact Ru
 |Mult=>exact Rt
 |FloorDiv=>exact Nb
 |Mod=>exact Rr
 |_=>exact Gk
def CF(op:CmpOp):fh:=op.casesOn oEq iy oLt oLe hr vW (j1 true) (j1 false) oC oC
theorem xO(op:CmpOp):c6 G (compareOp op)<|CF op:=by
 cases op with
 |Eq=>exact UG
 |NotEq=>exact UK
 |Lt=>exact af1
 |LtE=>exact af5
 |Gt=>exact UI
 |GtE=>exact UH
 |Is=>exact UJ
 |IsNot=>exact Jc
 |_=>exact Gk
def PE(X:Ev)(l:Expr):List CmpOp->List Expr->Den
 |[op],[r]=>bo (!(behindInMarks op r)) (mA (CF op) (X.e l)<|X.e r)
 |_,_=>aK
theorem MP(h:dK s X)(l:Expr)(b:List CmpOp)(rs:List Expr)(pos:Pos):aw s (.Compare l b rs pos)<|PE X l b rs:=by
 match b,rs with
 |[op],[r]=>exact aP.bo λc=>aw.cmp (xO op) (h.e l) (h.e r)<|(Bool.not_eq_true' _).mp c
 |[],_=>exact aP.aK
 |[_],[]=>exact aP.aK
 |[_],_::_::_=>exact aP.aK
 |_::_::_,_=>exact aP.aK
def Pa(X:Ev)(l:Expr):List CmpOp->List Expr->dP
 |[op],[r]=>bo (!(behindInMarks op r)) (qi<|mA (CF op) (X.e l)<|X.e r)
 |_,_=>aK
theorem MA(h:dK s X)(l:Expr)(b:List CmpOp)(rs:List Expr)(pos:Pos):dh s (.Compare l b rs pos)<|Pa X l b rs:=by
 match b,rs with
 |[op],[r]=>exact aP.bo λc=>dh.cmp (xO op) (h.e l) (h.e r)<|(Bool.not_eq_true' _).mp c
 |[],_=>exact aP.aK
 |[_],[]=>exact aP.aK
 |[_],_::_::_=>exact aP.aK
 |_::_::_,_=>exact aP.aK
def K3(X:Ev):BoolOp->List Expr->Den
 |.And,[a,b]=>CK (X.e a) (X.e b)
 |.Or,[a,b]=>Ik (X.e a) (X.e b)
 |_,_=>aK
theorem Iw(h:dK s X)(op:BoolOp)(es:List Expr)(pos:Pos):aw s (.BoolOp op es pos)<|K3 X op es:=by
 match op,es with
 |.And,[a,b]=>exact aw.XA (h.e a)<|h.e b
 |.Or,[a,b]=>exact aw.ack (h.e a)<|h.e b
 |.And,[]=>exact aP.aK
 |.Or,[]=>exact aP.aK
 |.And,[_]=>exact aP.aK
 |.Or,[_]=>exact aP.aK
 |.And,_::_::_::_=>exact aP.aK
 |.Or,_::_::_::_=>exact aP.aK
def KR(X:Ev)(pos:Pos):BoolOp->List Expr->dP
 |.And,[]=>XR
 |.Or,[]=>XQ
 |.And,e::es=>CJ (X.b e) (X.b<|.BoolOp .And es pos)
 |.Or,e::es=>Ij (X.b e) (X.b<|.BoolOp .Or es pos)
theorem HR(h:dK s X)(op:BoolOp)(es:List Expr)(pos:Pos):dh s (.BoolOp op es pos)<|KR X pos op es:=by
 match op,es with
 |.And,[]=>exact dh.Xz
 |.Or,[]=>exact dh.acj
 |.And,e::es=>exact dh.and (h.b e)<|h.b _
 |.Or,e::es=>exact dh.or (h.b e)<|h.b _
def afz(X:Ev)(r:Bool)(e:Expr):Den:=match r with
 |true=>Pz (X.n e)
 |false=>X.e e
theorem jf(h:dK s X)(r:Bool)(e:Expr):aw s e<|afz X r e:=by
 cases r with
 |true=>exact aw.SI<|h.n e
 |false=>exact h.e e
noncomputable def afN(e:Expr):Bool:=e.ctorIdx==24
def HZ(x:Str):Option l0:=if x==("len":Str)then some a9 else if x==("max":Str)then some r3 else if x==("min":Str)then some uO else if x==("abs":Str)then some JD else if x==("sorted":Str)then some qt else none
inductive Om(G:aB)(x:Str)(op:l0):Prop
 |mk (id:_):nv G (.builtin id) op->bootBuiltins x=some (.builtin id)->x∈(["len","max","min","abs","sorted","list","range"]:List Str)->x≠"__name__"->Om G x op
theorem MB{x:Str}{op:l0}(h:HZ x=some op):Om s.G x op:=by
 unfold HZ at h;by_cases q:(x==("len":Str))=true
 ·rw[if_pos q]at h;cases h;cases eq_of_beq q;exact⟨_,Ro,by decide+kernel,by decide,by decide⟩
 rw[if_neg q]at h;by_cases q:(x==("max":Str))=true
 ·rw[if_pos q]at h;cases h;cases eq_of_beq q;exact⟨_,Rp,by decide+kernel,by decide,by decide⟩
 replace h:=(if_neg q)▸h;by_cases q:(x==("min":Str))=true
 ·rw[if_pos q]at h;cases h;cases eq_of_beq q;exact⟨_,Rq,by decide+kernel,by decide,by decide⟩
 replace h:=(if_neg q)▸h;by_cases q:(x==("abs":Str))=true
 ·rw[if_pos q]at h;cases h;cases eq_of_beq q;exact⟨_,Rm,by decide+kernel,by decide,by decide⟩
 replace h:=(if_neg q)▸h;by_cases q:(x==("sorted":Str))=true
 ·rw[if_pos q]at h;cases h;cases eq_of_beq q;exact⟨_,FR,by decide+kernel,by decide,by decide⟩
 rw[if_neg q]at h;exact cR h
noncomputable def afE:List Expr->Bool
 |[]=>true
 |_=>false
def x4(cm:Tab)(X:Ev)(x:Str)(es:List Expr):Den:=match cm.fn x with
 |some con=>nK con (X.as es)
 |none=>match cm.nw x with
  |some con=>nK con (X.as es)
  |none=>opt (HZ x) λop=>bo (!(afE es))<|xb op<|X.as es
theorem Gv(h:fw es=true):vn es:=λenv=>⟨_,rfl,by
 rw[lN<|n4 h]
 cases es with
 |nil=>exact .inl rfl
 |cons e es=>exact .inr ⟨_,_,rfl⟩⟩
theorem E3(T:fs s.G s.K cm)(h:dK s X){x:Str}(o:mG s.ai x=true)(d:fw es=true):aw s (.Call (.Name x np) es [] pos)<|x4 cm X x es:=by
 obtain⟨i,g⟩:=eC o
 unfold x4
 cases q:cm.fn x with
 |some con=>obtain⟨f,j,F⟩:=T.fn _ _ q;exact aw.T5 F j (Nat.le_refl _) (h.as es) i g<|Gv d
 |none=>
  cases j:cm.nw x with
  |some con=>obtain⟨c,fI,N,b,F⟩:=T.nw _ _ j;exact aw.YD N F b (h.as es) d i g
  |none=>
   refine aP.opt λop k=>aP.bo λl=>?_
   obtain⟨id,b,m,n,p⟩:=MB (s:=s) k
   cases es with
   |nil=>exact absurd l Bool.false_ne_true
   |cons e es=>exact aw.XF b m (h.as _) d (T.bi _ n) i g p
def Jp(x:Str):Option<|aD->Nat->List ζ->ζ->Option (ζ×aD):=if x==("append":Str)then some eN else if x==("extend":Str)then some rR else if x==("pop":Str)then some C3 else none
def x3(cm:Tab)(cf:Cfg)(X:Ev)(o:Expr)(x:Str)(es:List Expr):Den:=match Jp x with
 |some f=>match es with
  |[e]=>pj (X.e o) (afz X (cf.d&&afN e) e) f
  |_=>aK
 |none=>CR cm.mt x (X.e o) (X.as es)
theorem E2(T:fs s.G s.K cm)(h:dK s X){o:Expr}{x:Str}(g:mh o=true)(d:fw es=true)(i:(afa.endLine==pos.line)=true):aw s (.Call (.Attribute o x afa) es [] pos)<|x3 cm cf X o x es:=by
 delta x3
 cases b:Jp x with
 |none=>exact aw.UT T.cls (λc x con=>T.mt c x con) (h.e o) (h.as es) g d i
 |some f=>
  match es,d with
  |[e],d=>
   unfold Jp at b;by_cases q:(x==("append":Str))=true
   ·rw[if_pos q]at b;cases b;cases eq_of_beq q;exact aw.append (h.e o) (jf h _ e) g d i
   rw[if_neg q]at b;by_cases q:(x==("extend":Str))=true
   ·rw[if_pos q]at b;cases b;cases eq_of_beq q;exact aw.extend (h.e o) (jf h _ e) g d i
   replace b:=(if_neg q)▸b;by_cases q:(x==("pop":Str))=true
   ·rw[if_pos q]at b;cases b;cases eq_of_beq q;exact aw.pop (h.e o) (jf h _ e) g d i
   rw[if_neg q]at b;exact cR b
  |[],_=>exact aP.aK
  |_::_::_,_=>exact aP.aK
noncomputable def af0:List Keyword->Bool
 |[]=>true
 |_=>false
def K4(cm:Tab)(cf:Cfg)(X:Ev)(ai:aeY)(f:Expr)(es:List Expr)(pos:Pos):Den:=h3 f (λx y=>bo (mG ai x)<|bo (fw es)<|x4 cm X x es)<|Tq f (λo x afa=>bo (mh o)<|bo (fw es)<|bo (afa.endLine==pos.line)<|x3 cm cf X o x es) aK
theorem Iy(T:fs s.G s.K cm)(h:dK s X)(f:Expr)(es:List Expr)(pos:Pos):aw s (.Call f es [] pos)<|K4 cm cf X s.ai f es pos:=by exact od (Q:=λf y=>aw s (.Call f es [] pos) y) (λx np=>aP.bo λe=>aP.bo λb=>E3 T h e b)<|L9 (Q:=λf y=>aw s (.Call f es [] pos) y) (λo x afa=>aP.bo λc=>aP.bo λb=>aP.bo λd=>E2 T h c b d) aP.aK
def sO(X:Ev):Option Expr->Den
 |none=>eg .none
 |some e=>X.e e
theorem nN(h:dK s X)(o:Option Expr):k6 s o<|sO X o:=by
 cases o with
 |none=>exact k6.none
 |some e=>exact k6.some<|h.e e
abbrev KI(st:Expr):Type:=Option<|PLift (∃k p q,st=.UnaryOp .USub (.Constant (.int 1) k p) q)
def YW(st:Expr):KI st:=VW (P:=KI) st (λo e q=>match o with
 |.USub=>Ba (P:=λe=>KI<|.UnaryOp .USub e q) e (λc k p=>afH (C:=λc=>KI<|.UnaryOp .USub (.Constant c k p) q) c (λi=>if h:i=1 then some ⟨k,p,q,h▸rfl⟩else none) none) none
 |_=>none) none
def YX(lo b:Option Expr)(st:Expr):Option<|PLift (lo=none/\b=none/\∃k p q,st=.UnaryOp .USub (.Constant (.int 1) k p) q):=match lo,b with
 |none,none=>(YW st).map λh=>⟨rfl,rfl,h.1⟩
 |_,_=>none
def UE(lo b:Option Expr)(st:Expr):Bool:=(YX lo b st).isSome
def PG(X:Ev)(o i:Expr):Den:=Tt i (λlo b st x=>st.elim (Ih (X.e o) (sO X lo)<|sO X b) λst=>bo (UE lo b st)<|Im<|X.e o)<|Py (X.e o)<|X.e i
theorem MQ(h:dK s X)(o i:Expr)(pos:Pos):aw s (.Subscript o i pos)<|PG X o i:=by
 refine Mc (Q:=λi y=>aw s (.Subscript o i pos) y) (λlo c st p=>?_)<|aw.adG (h.e o)<|h.e i
 cases st with
 |none=>exact aw.cut (h.e o) (nN h lo)<|nN h c
 |some e=>refine aP.bo λb=>?_;obtain⟨⟨rfl,rfl,_,_,_,rfl⟩,_⟩:=Option.isSome_iff_exists.mp b;exact aw.rev<|h.e o
noncomputable def wr(ai:aeY)(x:Str):Bool:=(match ai.scope.names.lookup x with|some .local=>true|_=>false)||!((ai.scope.names.lookup (".0":Str)).isSome)
theorem TB{x:Str}(h:wr ai x=true):HE ai x:=by
 rcases Bool.or_eq_true_iff.mp h with h|h
 ·refine .inl ?_;cases e:ai.scope.names.lookup x with
  |none=>rw[e]at h;exact absurd h Bool.false_ne_true
  |some k=>rw[e]at h;cases k<;>first|rfl|exact absurd h Bool.false_ne_true
 ·exact .inr<|(Bool.not_eq_true' _).mp h
def DD(ai:aeY)(x:Str):Option Nat:=if wr ai x=true then fl ai.names x else none
theorem jr{x:Str}{i:Nat}(h:DD ai x=some i):sq ai x i:=bY h λb h=>⟨fE h,TB b⟩
def acb(e:Expr):Option {x:Str//∃p,e=.Name x p}:=E0 (P:=λe=>Option {x:Str//∃p,e=.Name x p}) e (λx p=>some ⟨x,p,rfl⟩) none
def R7(e:Expr):Option Str:=(acb e).map (·.1)
theorem BL{x:Str}(h:R7 e=some x):∃p,e=.Name x p:=
 let⟨z,_,e⟩:=Option.map_eq_some_iff.mp h
 e▸z.2
noncomputable def m7(ai:aeY):List Expr->Option (List Nat)
 |[]=>some []
 |e::es=>(R7 e).bind λx=>(DD ai x).bind λi=>(m7 ai es).bind λis=>some<|i::is
theorem kQ{ai:aeY}:∀{es:List Expr} {is:List Nat},m7 ai es=some is->kE ai es is
 |[],_,h=>by cases h;exact .nil
 |e::es,is,h=>ω h λx d h=>ω h λi b h=>ω h λf c h=>by cases h;obtain⟨_,rfl⟩:=BL d;exact .cons (jr b).1 (jr b).2<|kQ c
def xk(ai:aeY)(e:Expr):Option gx:=h3 e (λx y=>(DD ai x).bind λi=>some<|bh i)<|Md e (λes y y=>(m7 ai es).bind λis=>some<|gc is) none
theorem zR(h:xk s.ai e=some f):kd s e f:=
 od (Q:=λe o=>o=some f->kd s e f) (λx p h=>ω h λi b h=>by cases h;exact .name (jr b).1 (jr b).2)
  (Eh (Q:=λe o=>o=some f->kd s e f) (λes k p h=>ω h λis b h=>by cases h;exact .tup<|kQ b) cR) h
noncomputable def i4:Option NameKind->Nat
 |some .local=>1
 |some .cell=>2
 |some .free=>3
 |_=>0
theorem BC{o:Option NameKind}(h:i4 o=1):o=some .local:=by
 cases o with
 |none=>exact AP h
 |some k=>cases k<;>first|rfl|cases h
theorem WH{o:Option NameKind}(h:i4 o=2):o=some .cell:=by
 cases o with
 |none=>exact AP h
 |some k=>cases k<;>first|rfl|cases h
theorem abM{o:NameKind}(h:i4 (some o)=3):o=.free:=by cases o<;>first|rfl|cases h
def f6(sc:Scope):List Str:=(sc.names.filter λx=>(i4 (some x.2)==1||i4 (some x.2)==3)&&!(x.1==(".0":Str))).map (·.1)
def iN(ai:aeY)(sc:Scope)(ns:List Str):Bool:=(match sc.kind with|.function=>true|_=>false)&&((gn sc ai.scope).names.lookup (".0":Str)).isSome&&(ns.all λn=>(i4 (sc.names.lookup n)==1&&i4 ((gn sc ai.scope).names.lookup n)==1)||(!(i4 (sc.names.lookup n)==1)&&i4 ((gn sc ai.scope).names.lookup n)==2&&(sc.names.any λx=>x.1==n&&i4 (some x.2)==3)&&ai.names.contains n))&&(sc.names.all λx=>(!(i4 (some x.2)==3)||(ai.names.contains x.1&&i4 (ai.scope.names.lookup x.1)==2))&&!(i4 (some x.2)==2)&&(!(i4 (some x.2)==1)||i4 (sc.names.lookup x.1)==1))&&decide ns.Nodup&&ns.all λn=>!(n==("__classdict__":Str))
theorem FO{a b:Bool}(h:(!a||b)=true)(c:a=true):b=true:=by rw[c]at h;exact h
theorem sL{ns:List Str}(h:iN ai sc ns=true):mK ai sc ns:=by
 refine Θ λw=>?_;obtain⟨h,p⟩:=bf h;obtain⟨h,m⟩:=bf h;obtain⟨h,l⟩:=bf h;obtain⟨k,v⟩:=bf (bf h).1;have g:=λx c=>List.all_eq_true.mp l x c;refine w ⟨?_,v,λn i=>?_,λx c r=>?_,λx c q=>?_,λx c q=>?_,of_decide_eq_true m,λn i=>(Bool.not_eq_true' _).mp<|List.all_eq_true.mp p n i⟩
 ·cases e:sc.kind<;>rw[e]at k<;>first|rfl|exact absurd k Bool.false_ne_true
 ·rcases Bool.or_eq_true_iff.mp (List.all_eq_true.mp (bf h).2 n i)with q|q
  ·exact .inl ⟨BC<|eq_of_beq (bf q).1,BC<|eq_of_beq (bf q).2⟩
  ·obtain⟨q,t⟩:=bf q;obtain⟨q,f⟩:=bf q;obtain⟨j,o⟩:=bf q;obtain⟨x,c,f⟩:=List.any_eq_true.mp f;refine .inr ⟨λz=>?_,WH<|eq_of_beq o,?_,List.contains_iff_mem.mp t⟩
   ·rw[z]at j;exact w6 j
   ·obtain⟨a,b⟩:=x;obtain rfl:=abM<|eq_of_beq (bf f).2;obtain rfl:=eq_of_beq (bf f).1;exact c
 ·obtain⟨q,_⟩:=bf<|g x c;obtain⟨s,u⟩:=bf<|FO (bf q).1 (by rw[r];rfl);exact⟨List.contains_iff_mem.mp s,WH<|eq_of_beq u⟩
 ·obtain⟨d,_⟩:=bf<|g x c;obtain⟨_,d⟩:=bf d;rw[q]at d;exact w6 d
 ·obtain⟨_,d⟩:=bf<|g x c;exact BC<|eq_of_beq<|FO d (by rw[q];rfl)
noncomputable def afV(e:Expr):Bool:=e.ctorIdx==23
def tf(X:aeY->Ev)(ai:aeY)(elt:Expr)(b9:List Comprehension)(sc:Scope):aI:=match b9 with
 |[g]=>match g.ifs with
  |[]=>bo (iN ai sc<|f6 sc) (bo (afV g.target)<|opt (xk (kM ai sc<|f6 sc) g.target) λf=>sM ai sc (f6 sc) f ((X<|kM ai sc<|f6 sc).e elt)<|(X ai).i g.iter)
  |_::_=>bo (iN ai sc []) (mT<|(X ai).i g.iter)
 |_=>aK
theorem aca(h:afV t=true)(it:Addr)(v:Value):letOwnedTupleGo t (.ref it) v=pure ():=Expr.Name.elim t (eq_of_beq h) λx x=>rfl
theorem yW{X:aeY->Ev}(h:∀ai,dK ⟨s.G,s.K,ai⟩<|X ai):fq s elt t iter ifs sc pos (tf X s.ai elt [⟨t,iter,ifs,0⟩] sc)\/tf X s.ai elt [⟨t,iter,ifs,0⟩] sc=aK:=by
 have c:dK s<|X s.ai:=h s.ai
 cases ifs with
 |nil=>
  refine(?_:fq _ _ _ _ _ _ _ (bo (iN s.ai sc<|f6 sc) _)\/bo (iN s.ai sc<|f6 sc) _=_)
  cases b:iN s.ai sc (f6 sc)with
  |false=>exact .inr rfl
  |true=>
   cases g:afV t with
   |false=>exact .inr rfl
   |true=>
    cases d:xk (kM s.ai sc<|f6 sc) t with
    |none=>exact .inr rfl
    |some f=>
     refine(?_:fq _ _ _ _ _ _ _ (sM _ _ _ _ _ _)\/sM _ _ _ _ _ _=_);rcases c.i iter with ah|ah
     ·exact .inl<|fq.of (sL b) ah (zR d) ((h _).e elt)<|aca g
     ·exact .inr (by rw[ah];rfl)
 |cons e es=>
  refine(?_:fq _ _ _ _ _ _ _ (bo (iN s.ai sc []) _)\/bo (iN s.ai sc []) _=_)
  cases b:iN s.ai sc []with
  |false=>exact .inr rfl
  |true=>
   refine(?_:fq _ _ _ _ _ _ _ (mT _)\/mT _=_);rcases c.i iter with ah|ah
   ·exact .inl<|fq.of0 (sL b) ah
   ·exact .inr (by rw[ah];rfl)
noncomputable def Jb:List Comprehension->Bool
 |[g]=>g.is_async==0
 |_=>false
variable {b9:List Comprehension}
def afs(e:Expr):Bool:=mh e||(e.ctorIdx==16||e.ctorIdx==19)
def zd(e:Expr):Bool:=afs e||(e.ctorIdx==24||(e.ctorIdx==2||e.ctorIdx==8))
theorem ze{Q:Expr->Prop}(h:afs e=true)(j:∀o x p,Q<|.Attribute o x p)(l:∀o i p,Q<|.Subscript o i p)(b:∀x p,Q<|.Name x p)(d:∀f x k p,Q<|.Call f x k p)(g:∀c k p,Q<|.Constant c k p):Q e:=za h (LX · j l b) (za · (λh=>Expr.Call.elim (motive_1:=Q) e (eq_of_beq h) d) λh=>Expr.Constant.elim (motive_1:=Q) e (eq_of_beq h) g)
def VZ(op:UnaryOp)(e:Expr):Den:=match op with
 |.USub=>Tr e (λc x x=>afH (C:=λx=>Den) c (λi=>eg<|.int<|-i) aK) aK
 |_=>aK
theorem PH(op:UnaryOp)(e:Expr)(pos:Pos):aw s (.UnaryOp op e pos)<|VZ op e:=by
 cases op with
 |USub=>
  cases e with
  |Constant c k p=>
   cases c with
   |int i=>exact aw.neg
   |_=>exact aP.aK
  |_=>exact aP.aK
 |_=>exact aP.aK
def K5:List (Option Expr)->List Expr->Den
 |[],[]=>eg .dJ
 |_,_=>aK
theorem Iz(aA:List<|Option Expr)(vs:List Expr)(pos:Pos):aw s (.Dict aA vs pos)<|K5 aA vs:=by
 cases aA with
 |nil=>
  cases vs with
  |nil=>exact aw.dJ
  |cons=>exact aP.aK
 |cons=>exact aP.aK
def aaj(X:aeY->Ev)(ai:aeY)(e:Expr)(b:List Keyword)(d:Den):Den:=match b with
 |[]=>d
 |_::_=>Bb ((X ai).n e)
def uD(e:Expr):Bool:=h3 e (λx y=>x==("list":Str)) false
def L3(cm:Tab)(cf:Cfg)(X:aeY->Ev)(ai:aeY)(e:Expr):Den:=Expr.casesOn (motive_1:=λy=>Den) e (λop es y=>K3 (X ai) op es) (λy y y=>aK) (λl op r y=>mA (aeX op) ((X ai).e l)<|(X ai).e r) (λop e y=>VZ op e) (λy y y y=>aK) (λt a b y=>EZ ((X ai).b t) ((X ai).e a)<|(X ai).e b) (λaA vs y=>K5 aA vs) (λy y y=>aK)
 (λelt b9 sc pos=>Bb<|(X ai).n<|.ListComp elt b9 sc pos) (λy y y y=>aK) (λy y y y y=>aK) (λy y y y=>aK) (λy y=>aK) (λy y=>aK) (λy y=>aK) (λl g rs y=>PE (X ai) l g rs)
 (λf es d pos=>aaj X ai (.Call f es d pos) d (match uD f with
  |true=>Bb ((X ai).n<|.Call f es d pos)
  |false=>K4 cm cf (X ai) ai f es pos)) (λy y y y=>aK) (λy y=>aK) (λc y y=>E4 c) (λo x y=>bo (mh o)<|CL x<|(X ai).e o) (λo i y=>PG (X ai) o i) (λy y=>aK) (λx y=>afL cm ai x) (λes y=>Bb<|CO<|(X ai).as es) (λes y y=>Io (match cf.t with|true=>(X ai).z2 es|false=>(X ai).as es)) (λy y y y=>aK)
theorem J9{X:aeY->Ev}(T:fs s.G s.K cm)(h:∀ai,dK ⟨s.G,s.K,ai⟩<|X ai)(e:Expr):aw s e<|L3 cm cf X s.ai e:=by
 have d:dK s<|X s.ai:=h s.ai
 cases e with
 |Constant c k p=>exact E5 c k p
 |Name x p=>exact IA T x p
 |BinOp l op r p=>exact aw.bin (H0 op) (d.e l)<|d.e r
 |Compare l g rs p=>exact MP d l g rs p
 |BoolOp op es p=>exact Iw d op es p
 |UnaryOp op e p=>exact PH op e p
 |IfExp t a b p=>exact aw.abG (d.b t) (d.e a)<|d.e b
 |Call f es j p=>
  cases j with
  |nil=>
   refine(?_:aw s _ (match uD f with|true=>_|false=>_))
   cases uD f with
   |true=>exact aw.BN<|d.n _
   |false=>exact Iy T d f es p
  |cons n j=>exact aw.BN<|d.n _
 |Attribute o x p=>exact aP.bo λm=>aw.attr T.cls (d.e o) m
 |Subscript o i p=>exact MQ d o i p
 |List es p=>exact aw.BN<|b2.list<|d.as es
 |Tuple es k p=>
  refine aw.tup ?_
  cases cf.t with
  |true=>exact d.z2 es
  |false=>exact d.as es
 |Dict aA vs p=>exact Iz aA vs p
 |ListComp elt b9 sc p=>exact aw.BN<|d.n _
 |_=>exact aP.aK
def RX(cm:Tab)(X:Ev)(ai:aeY)(x:Str)(es:List Expr)(dH dD:Option Str)(c d:Expr):aI:=h3 d (λb y=>match es with
 |[e]=>bo (x==("sorted":Str)) (bo (mG ai x)<|bo (mG ai b)<|bo (fw [e])<|bo (dH==some "key")<|bo (dD==some "reverse")<|opt (cm.Nk b) λk=>xW k (X.e e)<|X.e c)
 |_=>aK) aK
def LQ(cm:Tab)(X:Ev)(ai:aeY)(x:Str)(es:List Expr):List Keyword->aI
 |[]=>bo (x==("list":Str)) (bo (mG ai x)<|bo (fw es)<|bo (!(afE es))<|kJ<|X.as es)
 |[⟨dH,c,_⟩,⟨dD,b,_⟩]=>RX cm X ai x es dH dD b c
 |_=>aK
theorem Jz(T:fs s.G s.K cm)(h:dK s X)(x:Str)(np pos:Pos)(es:List Expr)(j:List Keyword):b2 s (.Call (.Name x np) es j pos)<|LQ cm X s.ai x es j:=by
 match j with
 |[]=>
  refine b2.bo λl=>b2.bo λn=>b2.bo λc=>b2.bo λg=>?_
  obtain rfl:=eq_of_beq l
  cases es with
  |nil=>exact absurd g Bool.false_ne_true
  |cons e es=>exact b2.copy (h.as _) c (T.bi _<|of_decide_eq_true rfl) (eC n).1
 |[⟨dH,b,i⟩,⟨dD,d,o⟩]=>
  refine od (Q:=λb y=>b2 s (.Call (.Name x np) es [⟨dH,b,i⟩,⟨dD,d,o⟩] pos) y) ?_ b2.aK;intro v u
  ·match es with
   |[e]=>refine b2.bo λl=>b2.bo λn=>b2.bo λc=>b2.bo λg=>b2.bo λq=>b2.bo λr=>b2.opt λk p=>?_;obtain rfl:=eq_of_beq l;obtain rfl:=eq_of_beq q;obtain rfl:=eq_of_beq r;obtain⟨f,gQ,m,F,t⟩:=T.Nk _ _ p;exact b2.Vn F m t (h.e e) (h.e d) g (T.bi _<|of_decide_eq_true rfl) (eC n).1 (eC c).1 (eC c).2
   |[]=>exact b2.aK
   |_::_::_=>exact b2.aK
 |[⟨dH,b,i⟩]=>exact b2.aK
 |⟨dH,b,i⟩::⟨dD,d,o⟩::_::_=>exact b2.aK
def UX(cm:Tab)(X:Ev)(ai:aeY)(f:Expr)(es:List Expr)(b:List Keyword):aI:=h3 f (λx y=>LQ cm X ai x es b) aK
def Yy(X:Ev)(l r:Expr)(op:Operator):aI:=op.casesOn (KX (X.e l)<|X.e r) aK aK aK aK aK aK aK aK aK aK aK aK
def L4(cm:Tab)(cf:Cfg)(X:aeY->Ev)(ai:aeY)(e:Expr):aI:=Xb e (λes x=>CO (match cf.d with|true=>(X ai).z2 es|false=>(X ai).as es))<|W8 e (λl op r x=>Yy (X ai) l r op)<|Ma e (λf es b x=>UX cm (X ai) ai f es b)<|Ts e (λelt b9 sc x=>bo (Jb b9)<|tf X ai elt b9 sc) aK
theorem yO(h:Jb b9=true):∃t iter ifs,b9=[⟨t,iter,ifs,0⟩]:=by
 cases b9 with
 |nil=>exact w6 h
 |cons g l=>
 cases l with
 |cons=>exact w6 h
 |nil=>
 obtain⟨t,iter,ifs,n⟩:=g
 obtain rfl:n=0:=eq_of_beq h
 exact⟨_,_,_,rfl⟩
theorem Kb{X:aeY->Ev}(T:fs s.G s.K cm)(h:∀ai,dK ⟨s.G,s.K,ai⟩<|X ai)(e:Expr):b2 s e<|L4 cm cf X s.ai e:=by
 have b:dK s<|X s.ai:=h s.ai;refine Vx (λes p=>?_)<|Vt (λl op r p=>?_)<|Eg (λf es c p=>od (Q:=λf y=>b2 s (.Call f es c p) y) (λx np=>Jz T b x np p es c) b2.aK)<|Mb (λelt b9 sc p=>?_) b2.aK
 ·refine b2.list ?_;cases cf.d with
  |true=>exact b.z2 es
  |false=>exact b.as es
 ·cases op with
  |Add=>exact b2.add (b.e l)<|b.e r
  |_=>exact b2.aK
 ·refine b2.bo λd=>?_;obtain⟨t,iter,ifs,rfl⟩:=yO d;rcases yW h with q|q
  ·exact q.toN
  ·rw[q];exact b2.aK
theorem Gw(h:afs e=true)(env:Env)(whole:Sem Value):isTrue e env whole=(do let v←whole;standAt e.pos;holding [v] (truthy v)):=
 ze (Q:=λe=>isTrue e env whole=(do let v←whole;standAt e.pos;holding [v] (truthy v))) h (λx x x=>rfl) (λx x x=>rfl) (λx x=>rfl) (λx x x x=>rfl) λx x x=>rfl
noncomputable def UD(op:UnaryOp):Bool:=match op with
 |.Not=>true
 |_=>false
def L2(X:aeY->Ev)(ai:aeY)(e:Expr):dP:=W9 e (λop es pos=>KR (X ai) pos op es)<|Xa e (λl b rs x=>Pa (X ai) l b rs)<|Xd e (λop e x=>bo (UD op)<|CS<|(X ai).b e)<|bo (afs e)<|qi<|(X ai).e e
theorem J8{X:aeY->Ev}(h:∀ai,dK ⟨s.G,s.K,ai⟩<|X ai)(e:Expr):dh s e<|L2 X s.ai e:=by
 have b:dK s<|X s.ai:=h s.ai
 refine Vu (HR b)<|Vv (MA b)<|Vz (λop e p=>?_)<|aP.bo λc=>dh.of (b.e _)<|Gw c
 cases op with
 |Not=>exact dh.not<|b.b e
 |_=>exact aP.aK
def BA(ai:aeY)(e:Expr)(es:List Expr):Bool:=h3 e (λx y=>x==("range":Str)&&mG ai x&&fw es&&!(afE es)) false
def Dp(X:Ev)(ai:aeY)(e f:Expr)(es:List Expr)(b:List Keyword):aI:=match BA ai f es&&af0 b with
 |true=>gj (X.as es)
 |false=>eh (X.e e)
def stepI(X:aeY->Ev)(ai:aeY)(e:Expr):aI:=Ma e (λf es b pos=>Dp (X ai) ai (.Call f es b pos) f es b)<|bo (zd e)<|eh<|(X ai).e e
theorem C6(h:zd e=true)(env:Env)(x:Value):foldedSetIterable e env x=pure x:=za h (ze (Q:=λe=>foldedSetIterable e env x=pure x) · (λy y y=>rfl) (λy y y=>rfl) (λy y=>rfl) (λy y y y=>rfl) λy y y=>rfl) (za · (λh=>Expr.List.elim e (eq_of_beq h) λy y=>rfl) (za · (λh=>Expr.BinOp.elim e (eq_of_beq h) λy y y y=>rfl) λh=>Expr.ListComp.elim e (eq_of_beq h) λy y y y=>rfl))
theorem Ka{X:aeY->Ev}(T:fs s.G s.K cm)(h:∀ai,dK ⟨s.G,s.K,ai⟩<|X ai)(e:Expr):iJ s e (stepI X s.ai e)\/stepI X s.ai e=aK:=by
 have c:dK s<|X s.ai:=h s.ai;refine Eg (Q:=λe y=>iJ s e y\/y=aK) (λf es d p=>.inl ?_) ?_
 ·show iJ s _ (Dp (X s.ai) s.ai _ f es d);unfold Dp;cases g:BA s.ai f es&&af0 d with
  |false=>exact iJ.list (c.e _) λz z=>rfl
  |true=>
   obtain⟨b,m⟩:=bf g
   cases d with
   |cons=>exact absurd m Bool.false_ne_true
   |nil=>
    obtain⟨x,np,rfl,b⟩:=oe b
    obtain⟨b,l⟩:=bf b
    obtain⟨b,k⟩:=bf b
    obtain⟨b,j⟩:=bf b
    obtain rfl:=eq_of_beq b
    cases es with
    |nil=>exact absurd l Bool.false_ne_true
    |cons e es=>exact iJ.range (c.as _) k (T.bi _<|by decide) (eC j).1
 ·cases i:zd e with
  |false=>exact .inr rfl
  |true=>exact .inl<|iJ.list (c.e e)<|C6 i
def zJ(f:Expr->Den)(X:List Expr->aI):List Expr->aI
 |[]=>Ii
 |e::es=>bo (aff e) (CM (f e)<|X es)
theorem wh{f:Expr->Den}{X:List Expr->aI}(c:∀e,aw s e<|f e)(h:∀es,eb s es<|X es)(es:List Expr):eb s es<|zJ f X es:=by
 cases es with
 |nil=>exact eb.nil
 |cons e es=>exactλpos=>aP.bo λb=>eb.cons (c e) (h es) (λenv=>ho b es env) pos
noncomputable def ts(e:Expr):Bool:=!(e.ctorIdx==8||e.ctorIdx==9||e.ctorIdx==10)
theorem vT{e:Expr}(h:ts e=true)(t:Option Expr)(l:Nat)(env:Env):swapsWith e t l env=pure false:=by cases e<;>first|exact absurd h Bool.false_ne_true|exact Eq.refl<|pure false
theorem p6{k:Nat}{p:Pos}(l:Nat)(env:Env):swapsWithSole [.Tuple es k p] e l env=pure false:=by cases e<;>exact Eq.refl<|pure false
def zL(ai:aeY)(x:Str)(i5 hK:Pos)(sc:Scope):Bool:=(match ai.scope.kind with|.function=>true|_=>false)&&i4 (ai.scope.names.lookup x)==1&&i5.line==hK.line&&!(sc.names.any λ(n,k)=>n==x&&(k==.local||k==.cell))
theorem Hb{x:Str}(h:zL ai x i5 hK sc=true)(l:Nat)(env:Env)(b:env.scope=ai.scope):swapsWith (.ListComp elt b9 sc hK) (some<|.Name x i5) l env=pure true:=by
 refine Θ λm=>?_;obtain⟨h,g⟩:=bf h;obtain⟨h,f⟩:=bf h;obtain⟨c,i⟩:=bf h;have d:env.blockKind=.function:=by unfold Env.blockKind;refine b▸?_;cases e:ai.scope.kind<;>rw[e]at c<;>first|rfl|exact absurd c Bool.false_ne_true
 have j:env.kindOf x=some .local:=by refine(?_:env.scope.names.lookup x=_);rw[b];exact BC<|eq_of_beq i
 refine m ?_;show pure (env.blockKind==.function&&env.kindOf x==some .local&&i5.line==hK.line&&!(sc.names.any λ(n,k)=>n==x&&(k==.local||k==.cell)))=_;rw[d,j,f,g];rfl
def si(ai:aeY)(x:Str):Bool:=!(i4 (ai.scope.names.lookup x)==1)
theorem AN{x:Str}(h:si ai x=true)(l:Nat)(env:Env)(b:env.scope=ai.scope):swapsWith (.ListComp elt b9 sc hK) (some<|.Name x i5) l env=pure false:=by
 show pure (env.blockKind==.function&&env.kindOf x==some .local&&i5.line==hK.line&&!(sc.names.any λ(n,k)=>n==x&&(k==.local||k==.cell)))=_
 have c:(env.kindOf x==some .local)=false:=by
  refine(?_:(env.scope.names.lookup x==some .local)=false)
  refine b▸?_
  cases e:ai.scope.names.lookup x with
  |none=>rfl
  |some k=>unfold si at h;rw[e]at h;cases k<;>first|rfl|exact absurd h Bool.false_ne_true
 rw[c,Bool.and_false];rfl
noncomputable def agb(e:Expr):Bool:=e.ctorIdx==24||e.ctorIdx==2||e.ctorIdx==8||e.ctorIdx==16
def GC(cf:Cfg)(x:Str)(e:Expr):Bool:=cf.bO.contains x&&agb e
def afQ(cf:Cfg)(X:aeY->Ev)(ai:aeY)(x:Str)(i5:Pos)(e:Expr):bL:=opt (DD ai x) λi=>match ts e with
 |true=>CT i (afz (X ai) (GC cf x e) e)
 |false=>Ts e (λelt b9 sc hK=>bo (Jb b9) (match zL ai x i5 hK sc with
  |true=>nL (GC cf x<|.ListComp elt b9 sc hK) i (tf X ai elt b9 sc)
  |false=>bo (si ai x) (CT i<|afz (X ai) (GC cf x<|.ListComp elt b9 sc hK)<|.ListComp elt b9 sc hK))) aK
theorem HG{X:aeY->Ev}(h:∀ai,dK ⟨s.G,s.K,ai⟩<|X ai)(x:Str)(i5:Pos)(e:Expr)(pos:Pos):a4 s (.Assign [.Name x i5] e pos)<|afQ cf X s.ai x i5 e:=by
 refine aP.opt λi b=>?_
 have b:=jr b
 cases f:ts e with
 |true=>exact a4.assign (jf (h s.ai) _ e) b.1 b.2 λenv z=>vT f _ _ env
 |false=>
  refine Mb (Q:=λe y=>a4 s (.Assign [.Name x i5] e pos) y) ?_ aP.aK;intro elt b9 sc hK
  ·refine aP.bo λl=>?_;obtain⟨t,iter,ifs,rfl⟩:=yO l;cases j:zL s.ai x i5 hK sc with
   |true=>
    rcases yW h with q|q
    ·exact a4.comp _ q b.1 b.2 λenv d=>Hb j _ env d
    ·show a4 s _ (nL _ i<|tf X s.ai elt [⟨t,iter,ifs,0⟩] sc);simp only[q];intro c a r Q E g p;cases k:GC cf x (.ListComp elt [⟨t,iter,ifs,0⟩] sc hK)<;>rw[k]at p<;>exact p.elim
   |false=>exact aP.bo λm=>a4.assign (jf (h s.ai) _ _) b.1 b.2 λenv d=>AN m _ env d
noncomputable def tW:List Expr->List Str
 |[]=>[]
 |e::es=>h3 e (λx y=>x::tW es) (tW es)
def O3(X:Ev)(ai:aeY)(cC:List Expr)(e:Expr):bL:=opt (m7 ai cC) λis=>match e.ctorIdx==25 with
 |false=>uv (gc is) (X.e e)
 |true=>Md e (λvs k p=>match cC.length==2||cC.length==3 with
  |false=>uv (gc is) (X.e<|.Tuple vs k p)
  |true=>bo (match ai.scope.kind with|.function=>true|_=>false) (bo (zK ai cC vs<|tW cC)<|uv (tY is)<|X.e<|.Tuple vs k p)) aK
theorem tp{ai:aeY}:∀{es:List Expr} {is:List Nat},m7 ai es=some is->All (sq ai) (tW es) is
 |[],_,h=>by cases h;exact .nil
 |e::es,is,h=>ω h λx c h=>ω h λi d h=>ω h λf b h=>by cases h;obtain⟨_,rfl⟩:=BL c;exact .cons (jr d)<|tp b
theorem Mo(h:dK s X)(cC:List Expr)(k:Nat)(d:Pos)(e:Expr)(pos:Pos):a4 s (.Assign [.Tuple cC k d] e pos)<|O3 X s.ai cC e:=by
 refine aP.opt λis b=>?_
 cases i:e.ctorIdx==25 with
 |false=>refine a4.unpack (h.e e) (kQ b) (λenv=>p6 _ env) λenv=>?_;cases e<;>first|rfl|exact Bool.noConfusion i
 |true=>
  refine Eh (Q:=λe y=>a4 s (.Assign [.Tuple cC k d] e pos) y) ?_ aP.aK;intro vs f g
  ·refine(?_:a4 s _ (match cC.length==2||cC.length==3 with|false=>_|true=>_));cases m:cC.length==2||cC.length==3 with
   |false=>exact a4.unpack (h.e _) (kQ b) (λenv=>p6 _ env) λenv=>if_pos (by rw[m];rfl)
   |true=>refine aP.bo λc=>aP.bo λl=>a4.swap (h.e _) (tp b) (λenv j=>N1 ?_ l env j) λenv=>p6 _ env;cases e:s.ai.scope.kind<;>rw[e]at c<;>first|rfl|exact absurd c Bool.false_ne_true
def af8(X:Ev)(o i e:Expr):bL:=Tt i (λlo b st x=>st.elim (pk (X.e o) (sO X lo) (sO X b)<|X.e e) λx=>aK)<|CP (X.e o) (X.e i)<|X.e e
theorem Mn(h:dK s X)(o i e:Expr)(wO pos:Pos):a4 s (.Assign [.Subscript o i wO] e pos)<|af8 X o i e:=by
 refine Mc (Q:=λi y=>a4 s (.Assign [.Subscript o i wO] e pos) y) (λlo b st p=>?_)<|a4.item (h.e o) (h.e i)<|h.e e
 cases st with
 |none=>exact a4.slice (h.e o) (nN h lo) (nN h b)<|h.e e
 |some _=>exact aP.aK
def O2(cf:Cfg)(X:aeY->Ev)(ai:aeY)(e t:Expr):bL:=h3 t (λx i5=>afQ cf X ai x i5 e)<|Tq t (λo x y=>gh x ((X ai).e o)<|afz (X ai) (GC cf x e) e)<|Xc t (λo i y=>af8 (X ai) o i e)<|Md t (λcC y y=>O3 (X ai) ai cC e) aK
theorem Mm{X:aeY->Ev}(T:fs s.G s.K cm)(h:∀ai,dK ⟨s.G,s.K,ai⟩<|X ai)(t e:Expr)(pos:Pos):a4 s (.Assign [t] e pos)<|O2 cf X s.ai e t:=by have b:dK s<|X s.ai:=h s.ai;refine od (Q:=λt y=>a4 s (.Assign [t] e pos) y) (λx i5=>HG h x i5 e pos)<|L9 (Q:=λt y=>a4 s (.Assign [t] e pos) y) (λo x d=>a4.attr T.L6 (b.e o)<|jf b _ e) ?_;exact Vy (Q:=λt y=>a4 s (.Assign [t] e pos) y) (λo i wO=>Mn b o i e wO pos)<|Eh (Q:=λt y=>a4 s (.Assign [t] e pos) y) (λcC k c=>Mo b cC k c e pos) aP.aK
def GF(cm:Tab)(X:Ev)(ai:aeY)(e:Expr):bL:=Ma e (λf es b y=>h3 f (λx y=>bo cm.ex<|bo (x==("LispSignal":Str))<|bo (mG ai x)<|bo (fw es)<|bo (af0 b)<|xU<|X.as es) aK) aK
theorem GG(T:fs s.G s.K cm)(h:dK s X)(e:Expr)(pos:Pos):a4 s (.Raise (some e) none pos)<|GF cm X s.ai e:=by
 refine Eg (Q:=λe y=>a4 s (.Raise (some e) none pos) y) (λf es d p=>?_) aP.aK
 ·refine od (Q:=λf y=>a4 s (.Raise (some<|.Call f es d p) none pos) y) ?_ aP.aK;intro x np
  ·refine aP.bo λl=>aP.bo λn=>aP.bo λb=>aP.bo λi=>aP.bo λj=>?_;obtain rfl:=eq_of_beq n;refine Θ λc=>?_;cases d with
   |cons=>exact c<|absurd j Bool.false_ne_true
   |nil=>obtain⟨fI,ci,gQ,g,o,F,I,m,k⟩:=T.ex l;exact c<|a4.raise g F I m k (h.as es) i (eC b).1 (eC b).2
abbrev KH(t:Stmt):Type:=Option {y:Str×Str//∃hE ap g9,t=.Return (some<|.Attribute (.Name y.1 hE) y.2 ap) g9}
def YU(t:Stmt):KH t:=aah (S:=KH) t (λo c=>match o with
 |none=>none
 |some e=>VT (P:=λe=>KH<|.Return (some e) c) e (λb x d=>E0 (P:=λb=>KH<|.Return (some<|.Attribute b x d) c) b (λn f=>some ⟨(n,x),f,d,c,rfl⟩) none) none) none
def L0(t:Stmt):Option<|Str×Str:=(YU t).map (·.1)
theorem JN{t:Stmt}{y:Str×Str}(h:L0 t=some y):∃d b c,t=.Return (some<|.Attribute (.Name y.1 d) y.2 b) c:=
 let⟨z,_,e⟩:=Option.map_eq_some_iff.mp h
 e▸z.2
abbrev VH(t:ExceptHandler):Type:=Option {y:Str×Str×List Stmt//∃np bq,t=.ExceptHandler (some<|.Name y.1 np) (some y.2.1) y.2.2 bq}
def QC(t:ExceptHandler):VH t:=match t with
 |.ExceptHandler (some e) (some n) b c=>E0 (P:=λe=>VH<|.ExceptHandler (some e) (some n) b c) e (λx np=>some ⟨(x,n,b),np,c,rfl⟩) none
 |_=>none
def QA(t:ExceptHandler):Option<|Str×Str×List Stmt:=(QC t).map (·.1)
theorem M8{t:ExceptHandler}{y:Str×Str×List Stmt}(h:QA t=some y):∃np b,t=.ExceptHandler (some<|.Name y.1 np) (some y.2.1) y.2.2 b:=
 let⟨z,_,e⟩:=Option.map_eq_some_iff.mp h
 e▸z.2
noncomputable def JF{α:Type}:List α->Option α
 |[x]=>some x
 |_=>none
theorem BO{l:List α}{x:α}(h:JF l=some x):l=[x]:=by
 cases l with
 |nil=>cases h
 |cons y l=>
  cases l with
  |nil=>cases h;rfl
  |cons=>exact cR h
def SM(cm:Tab)(ai:aeY)(d:bL)(b:List ExceptHandler):bL:=opt ((JF b).bind QA) λy=>opt ((JF y.2.2).bind L0) λz=>bo cm.ex<|bo (y.1==("LispSignal":Str))<|bo (mG ai y.1)<|bo (i4 (ai.scope.names.lookup y.2.1)==1)<|bo ((fl ai.names y.2.1).isNone)<|bo (!(y.2.1==("__debug__":Str)))<|bo ((ai.scope.names.lookup (".0":Str)).isNone)<|bo (z.1==y.2.1)<|bo (z.2==("symbol":Str))<|xY d
theorem NT{d:bL}{body:List Stmt}(T:fs s.G s.K cm)(h:gG s body d)(b:List ExceptHandler)(pos:Pos):a4 s (.Try body b [] [] pos)<|SM cm s.ai d b:=by refine aP.opt λy l=>aP.opt λz hz=>aP.bo λC=>aP.bo λD=>aP.bo λc=>aP.bo λo=>aP.bo λf=>aP.bo λr=>aP.bo λx=>aP.bo λw=>aP.bo λA=>?_;obtain⟨N,O,P⟩:=y;obtain rfl:=eq_of_beq D;obtain⟨M,K⟩:=z;refine ω l λt B j=>ω hz λu n v=>?_;obtain⟨np,G,rfl⟩:=M8 j;obtain⟨L,E,J,rfl⟩:=JN v;obtain rfl:=BO B;refine Eq.symm (BO n)▸(Θ λp=>?_);obtain rfl:=eq_of_beq A;cases eq_of_beq w;obtain⟨fI,ci,gQ,g,i,F,I,m,H⟩:=T.ex C;refine p ?_;exact a4.try g i m h (eC c).1 (eC c).2 (BC<|eq_of_beq o) (λq=>by obtain⟨k,e⟩:=rZ q;rw[e]at f;cases f) ((Bool.not_eq_true' _).mp r) (Option.isNone_iff_eq_none.mp x)
noncomputable def te:List Stmt->Bool
 |[]=>true
 |_=>false
def NS(cf:Cfg)(X:aeY->Ev)(ai:aeY)(e:Expr):List Expr->bL
 |[t]=>O2 cf X ai e t
 |_=>aK
def L5(cm:Tab)(cf:Cfg)(X:aeY->Ev)(ai:aeY)(t:Stmt):bL:=Stmt.casesOn (motive_2:=λx=>bL) t (λx x x x x x x x x x=>aK) (λx x x x x x x x x x=>aK) (λx x x x x x x x x x x=>aK) (λo x=>o.casesOn (λa=>.ok (.ret .none) a) λe=>Il<|(X ai).e e) (λx x=>aK) (λcC e x=>NS cf X ai e cC) (λx x x x x x x=>aK) (λx x x x=>aK) (λx x x x x=>aK) (λt i b o x=>bo (te o)<|opt (xk ai t) λf=>lh f ((X ai).jc b)<|(X ai).i i) (λx x x x x=>aK) (λt b o x=>bo (te o)<|c4 ((X ai).b t)<|(X ai).jc b) (λt a b x=>EZ ((X ai).b t) ((X ai).jc a)<|(X ai).jc b) (λx x x=>aK) (λx x x=>aK) (λx x x=>aK) (λo c x=>o.casesOn aK λe=>c.casesOn (GF cm (X ai) ai e) λx=>aK) (λb d o f x=>bo (te o)<|bo (te f)<|SM cm ai ((X ai).jc b) d) (λx x x x x=>aK) (λx x x=>aK) (λx x=>aK) (λx x x x=>aK) (λx x=>aK) (λx x=>aK) (λe x=>bo (ts e)<|CN<|(X ai).e e) (λx=>qh) (λx=>aK) λx=>aK
theorem Kc{X:aeY->Ev}(T:fs s.G s.K cm)(h:∀ai,dK ⟨s.G,s.K,ai⟩<|X ai)(t:Stmt):a4 s t<|L5 cm cf X s.ai t:=by
 have d:dK s<|X s.ai:=h s.ai
 cases t with
 |Expr e p=>exact aP.bo λk=>a4.expr (d.e e) λenv=>vT k _ _ env
 |Assign cC e p=>
  match cC with
  |[t]=>exact Mm T h t e p
  |[]=>exact aP.aK
  |_::_::_=>exact aP.aK
 |«If» t a b p=>exact a4.if (d.b t) (d.jc a)<|d.jc b
 |While t b o p=>
  cases o with
  |nil=>exact a4.while (d.b t)<|d.jc b
  |cons=>exact aP.aK
 |For t i b o p=>
  cases o with
  |cons=>exact aP.aK
  |nil=>
   refine aP.opt λf m=>?_;rcases d.i i with j|j
   ·exact a4.for j (zR m)<|d.jc b
   ·rw[j];exactλc a r Q E g p=>p.elim
 |Return o p=>
  cases o with
  |none=>exact a4.YT
  |some e=>exact a4.ret<|d.e e
 |Pass p=>exact a4.pass
 |Raise o c p=>
  cases o with
  |none=>exact aP.aK
  |some e=>
   cases c with
   |none=>exact GG T d e p
   |some _=>exact aP.aK
 |Try b l o f p=>
  cases o with
  |cons=>exact aP.aK
  |nil=>
   cases f with
   |cons=>exact aP.aK
   |nil=>exact NT T (d.jc b) l p
 |_=>exact aP.aK
def G5(d:Stmt->bL)(X:List Stmt->bL):List Stmt->bL
 |[]=>qh
 |t::cC=>xV (d t) (X cC)
theorem G6{d:Stmt->bL}{X:List Stmt->bL}(b:∀t,a4 s t<|d t)(h:∀cC,gG s cC<|X cC)(cC:List Stmt):gG s cC<|G5 d X cC:=by
 cases cC with
 |nil=>exact gG.nil
 |cons t cC=>exact gG.cons (b t)<|h cC
noncomputable def ev(cm:Tab)(cf:Cfg):Nat->aeY->Ev
 |0=>λx=>⟨λx=>aK,λx=>aK,λx=>aK,λx=>aK,λx=>aK,λx=>aK,λx=>aK,λx=>aK⟩
 |n+1=>λai=>⟨L3 cm cf (ev cm cf n) ai,L4 cm cf (ev cm cf n) ai,L2 (ev cm cf n) ai,stepI (ev cm cf n) ai,zJ (ev cm cf n ai).e (ev cm cf n ai).as,zJ (λe=>afz (ev cm cf n ai) (afN e) e) (ev cm cf n ai).z2,L5 cm cf (ev cm cf n) ai,G5 (ev cm cf n ai).st (ev cm cf n ai).jc⟩
theorem K7{G:aB}{K:Nat}{cm:Tab}{cf:Cfg}(T:fs G K cm):∀n ai,dK ⟨G,K,ai⟩ (ev cm cf n ai)
 |0,ai=>⟨λx=>aP.aK,λx=>b2.aK,λx=>aP.aK,λx=>.inr rfl,λx x=>aP.aK,λx x=>aP.aK,λx=>aP.aK,λx=>aP.aK⟩
 |n+1,ai=>by have b:=K7 (cf:=cf) T n;exact⟨J9 T b,Kb T b,J8 b,Ka T b,wh (b ai).e (b ai).as,wh (λe=>jf (b ai) _ e) (b ai).z2,Kc T b,G6 (b ai).st (b ai).jc⟩
section
open Builtin Builtin.ObjectAttr
theorem lC{x:Str}:∀{ds:List bx} {b:List Addr} {m:Str->Option Value},(ds.map (·.name)).contains x=false->df ds b m x=m x
 |[],_,_,_=>rfl
 |_::_,[],_,_=>rfl
 |d::ds,f::b,m,h=>by rw[map_cons]at h;rw[contains_cons]at h;rw[Bool.or_eq_false_iff]at h;rw[df,lC h.2,if_neg<|beq_eq_false_iff_ne.mp h.1]
theorem rv{R:bx->Addr->Prop}{x:Str}:∀{ds:List bx} {b:List Addr} {m:Str->Option Value} {d:bx},h7 R ds b->(ds.map (·.name)).Nodup->ds.find? (λd=>d.name==x)=some d->∃f,R d f/\df ds b m x=some (.ref f):=by
 intro ds b m d a
 induction a generalizing m with
 |nil=>exactλy h=>cR h
 |@cons T6 f ds b r rs e=>
  intro c h;rw[map_cons]at c;obtain⟨g,i⟩:=nodup_cons.mp c;rw[find?_cons]at h;by_cases q:(T6.name==x)=true
  ·rw[q]at h;obtain rfl:=Φ h;refine⟨f,r,?_⟩;obtain rfl:=eq_of_beq q;rw[df,lC (by rw[←Bool.not_eq_true,List.contains_iff_mem];exact g)];exact if_pos rfl
  ·rw[Bool.eq_false_iff.mpr q]at h;exact e i h
def k5(h:Heap)(bm:List Value)(x:Str)(y:Option Value):Prop:=∀(M:Model) (A:Around) (E:Value->Shared->Prop) (g:Array GenState) (d:Drawn) (t:Nat) (os:OsState) (Q:Option Value->Shared->Prop),Q y ⟨h,g,d,t,os⟩->wpAny M A (lookupAlong bm x) Q E ⟨h,g,d,t,os⟩
theorem k5.ty{h:Heap}{t:String}{x:Str}{y:Option Value}(e:mroOf (.type t)=pure bm)(b:typeLookup (.type t) x=pure y):k5 h bm x y:=λM A E g d tk os Q c=>by
 have:lookupAlong bm x=pure y:=by rw[typeLookup_eq,e]at b;exact b
 exact this▸(ψ c)
section
variable {N:Nat}{h0:Heap}{a:Addr}{name:Str}{ds:List bx}{mk:String}
theorem gZ(x:dA aq N h0 a name ds bs (.ref a::bm) mk):rE h0 a bm mk:=by obtain⟨t,tq,ed,ns,b,m',e,d,c,_⟩:=x;exact⟨name,name,ns,bs,_,b,_,_,ed,none,some<|.str name t,some<|.str name tq,some<|.bool true,c⟩
theorem Aj(x:dA aq N h0 a name ds bs (.ref a::bm) mk){h:Heap}(j:∀a o,h0.get? a=some o->h.get? a=some o){y:Str}{v:Option Value}(n:dF.contains y=false)(m:k5 h bm y v):
 ∃b,h7 (λ(d:bx) f=>FnAt (·<aq) h0 f d.name (name++"."++d.name) d.params d.body d.scope) ds b/\k5 h (.ref a::bm) y (match df ds b (λz=>none) y with|some v=>some v|none=>v):=by
 obtain⟨t,tq,ed,ns,k,m',u,b,q,_,_,_,_,_,r,s,l⟩:=x
 refine⟨b,l,λM A E g d tk os Q c=>?_⟩
 rw[lookupAlong_cons]
 have p:=j _ _ q
 refine υ<|wpAny_classOwn_exc p (r.ns.at λo e=>j _ _ e) ?_
 refine(s y n)▸?_
 cases i:df ds b (λz=>none) y with
 |some v=>rw[i]at c;exact ψ c
 |none=>rw[i]at c;exact m _ _ _ _ _ _ _ _ c
theorem rS(x:dA aq N h0 a name ds bs (.ref a::bm) mk){h:Heap}(f:∀a o,h0.get? a=some o->h.get? a=some o){y:Str}{v:Option Value}(b:k5 h (.ref a::bm) y v):fj h a y v:=λM A E g d t os Q c=>by obtain⟨nm,q,N,bs,sn,sub,col,gX,ed,dH,dD,d9,jX,e⟩:=gZ x;simp only[typeLookup_eq];exact υ<|wpAny_mroOf_exc (f _ _ e)<|b _ _ _ _ _ _ _ _ c
theorem kL(x:dA aq N h0 a name ds bs (.ref a::bm) mk){h:Heap}(e:∀a o,h0.get? a=some o->h.get? a=some o){y:Str}{v:Option Value}(c:dF.contains y=false)(d:(ds.map (·.name)).contains y=false)(b:k5 h bm y v):k5 h (.ref a::bm) y v:=by obtain⟨f,_,k⟩:=Aj x e c b;rw[lC d]at k;exact k
theorem sS(x:dA aq N h0 a name ds bs (.ref a::bm) mk){y:Str}{d:bx}(m:(ds.map (·.name)).Nodup)(l:dF.contains y=false)(p:ds.find? (λd=>d.name==y)=some d):
 ∃f,FnAt (·<aq) h0 f d.name (name++"."++d.name) d.params d.body d.scope/\∀h:Heap,(∀a o,h0.get? a=some o->h.get? a=some o)->fj h a y (some<|.ref f):=by
 refine Θ λu=>?_
 obtain⟨t,tq,ed,ns,i,m',w,v,n,_,_,_,_,_,r,s,j⟩:=x
 obtain⟨f,q,e⟩:=rv j m p
 refine u ⟨f,q,λh c M A E g d tk os Q k=>?_⟩
 have b:=c _ _ n
 simp only[typeLookup_eq]
 refine υ<|wpAny_mroOf_exc b ?_
 refine cY ?_
 rw[lookupAlong_cons]
 refine υ<|wpAny_classOwn_exc b (r.ns.at λo e=>c _ _ e) ?_
 refine(s y l)▸(e▸?_)
 exact ψ k
end
theorem Bj{x:Str}{a:Addr}(e:x=ae2 c)(h:G.cJ x=some (.ref a)):G.cls c=a:=by subst e;unfold aB.cls;rw[h]
noncomputable def kN(c:Nat):Bool:=decide (c<13)&&(c !=0&&c !=6)
theorem Ja(h0:c≠0)(b:fieldsOf c≠[]):kN c=true:=by
 by_cases q:c<13
 ·exact(by decide:∀c:Fin 13,c.1≠0->fieldsOf c.1≠[]->kN c.1=true) ⟨c,q⟩ h0 b
 ·obtain⟨k,rfl⟩:=Nat.exists_eq_add_of_le'<|Nat.not_lt.mp q;exact(b rfl).elim
def A6(c:Nat):Bool:=(match cQ bG (ae2 c)with
 |some (.cls k)=>(k.base.elim true λe=>h3 e (λn x=>n==("Opaque":Str)) false)
 |_=>false)&&decide (g7 c).Nodup&&!(g7 c).contains "__getattribute__"&&!(g7 c).contains "__getattr__"&&!(g7 c).contains "__setattr__"
def DI:Bool:=bG.all λit=>match it with
 |.cls k=>!(k.name==("Opaque":Str))||(k.ds.map (·.name)).all λx=>(["shown","kind","same_as"]:List Str).contains x
 |_=>true
theorem Ar:DI=true:=by kernel_rfl
theorem H7(c:Nat)(h:kN c=true):A6 c=true:=by
 match c with
 |1|2|3|4|5|7|8|9|10|11|12=>kernel_rfl
 |0=>exact absurd h Bool.false_ne_true
 |6=>exact absurd h Bool.false_ne_true
 |_+13=>exact absurd h Bool.false_ne_true
structure Hu(G:aB)(c:Nat):Prop where
 cJ:G.cJ (ae2 c)=some (.ref<|G.cls c)
 cls:l1 G c
 new:∃bm,k1 G.s.heap (G.cls c) bm/\(Value.ref (G.cls c)::bm).contains (.type "object")=true
 Yu:∀y d,dF.contains y=false->(nH c).ds.find? (λd=>d.name==y)=some d->∃f,FnAt (·<G.aq) G.s.heap f d.name ((nH c).name++"."++d.name) d.params d.body d.scope/\xv G c y f
theorem A5{k:fA}(e:cQ bG (ae2 c)=some (.cls k)):nH c=k:=by unfold nH;rw[e]
theorem jQ(L:kN c=true):Hu G c:=by
 refine Θ λu=>?_
 have p:=H7 c L
 unfold A6 at p
 rw[Bool.and_eq_true,Bool.and_eq_true]at p
 rw[Bool.and_eq_true]at p
 rw[Bool.and_eq_true]at p
 obtain⟨⟨⟨⟨g,t⟩,R⟩,S⟩,N⟩:=p
 have t:=of_decide_eq_true t
 have J:∀x:Str,(["__getattribute__","__getattr__","__setattr__"]:List Str).contains x=true->(g7 c).contains x=false:=λx q=>by
  rcases ae6 (List.contains_iff_mem.mp q)with rfl|q
  ·exact(Bool.not_eq_true' _).mp R
  rcases ae6 q with rfl|q
  ·exact(Bool.not_eq_true' _).mp S
  rcases ae6 q with rfl|q
  ·exact(Bool.not_eq_true' _).mp N
  ·cases q
 cases e:cQ bG (ae2 c)with
 |none=>rw[e]at g;exact absurd g Bool.false_ne_true
 |some it=>
 replace g:=e▸g
 cases it with
 |e7=>exact u<|absurd g Bool.false_ne_true
 |asg=>exact u<|absurd g Bool.false_ne_true
 |cls k=>
 have g:(k.base.elim true λe=>h3 e (λn X=>n==("Opaque":Str)) false)=true:=g
 have E:=A5 e
 have s:g7 c=k.ds.map (·.name):=by unfold g7;rw[E]
 obtain⟨v,I,m⟩:=G.T.find e
 obtain⟨a,rfl,m⟩:=m
 have O:=Bj rfl I
 subst O
 cases w:k.base with
 |none=>
  delta PQ.Internal.ClsAt at m;rw[w]at m;have i:=m;refine u ⟨I,⟨⟨_,⟨gZ i⟩,List.contains_iff_mem.mpr<|.tail _<|.head _,λx=>_root_.PySem.F.store_object.passes _⟩,λh l x y C j X r=>?_,J⟩,⟨_,gZ i,List.contains_iff_mem.mpr<|.tail _<|.head _⟩,λy d j o=>?_⟩
  ·exact rS i l<|kL i l j (s▸r)<|.ty F.mro_object C
  ·rw[E]at o⊢;obtain⟨f,D,H⟩:=sS i (s▸t) j o;exact⟨f,D,⟨H⟩⟩
 |some b=>
  replace g:=w▸g;obtain⟨n,np,Q,g⟩:=oe g
  ·subst Q;obtain rfl:=eq_of_beq g;obtain⟨B,ek,K,z,_,A,i⟩:=m.sub w (by decide);have P:∀x:Str,(["shown","kind","same_as"]:List Str).contains x=false->(ek.ds.map (·.name)).contains x=false:=λx q=>by have:=List.all_eq_true.mp Ar _ K;have:(!(ek.name==("Opaque":Str))||(ek.ds.map (·.name)).all λx=>(["shown","kind","same_as"]:List Str).contains x)=true:=this;replace this:=z▸this;rw[←Bool.not_eq_true];intro r;have:=List.all_eq_true.mp this x<|List.contains_iff_mem.mp r;rw[q]at this;exact Bool.false_ne_true this
   refine u ?_;refine⟨I,⟨⟨_,⟨gZ i⟩,List.contains_iff_mem.mpr<|.tail _<|.tail _<|.head _,λx=>by rw[refuseLoop_ref];exact _root_.PySem.F.store_object.passes _⟩,λh l x y C j M r=>?_,J⟩,⟨_,gZ i,List.contains_iff_mem.mpr<|.tail _<|.tail _<|.head _⟩,λy d j o=>?_⟩
   ·exact rS i l<|kL i l j (s▸r)<|kL A l j (P x M)<|.ty F.mro_object C
   ·rw[E]at o⊢;obtain⟨f,D,H⟩:=sS i (s▸t) j o;exact⟨f,D,⟨H⟩⟩
end
section
open Builtin Builtin.ObjectAttr
theorem P0:typeLookup (.type "Exception") "__setattr__"=pure (some<|.builtin "object.__setattr__"):=by rw[typeLookup_type,builtinLookup_eq_fast];kernel_rfl
theorem Fc:typeLookup (.type "Exception") "symbol"=pure none:=by rw[typeLookup_type,builtinLookup_eq_fast];kernel_rfl
theorem PX:typeLookup (.type "Exception") "data"=pure none:=by rw[typeLookup_type,builtinLookup_eq_fast];kernel_rfl
theorem PY:mroOf (.type "Exception")=pure [.type "Exception",.type "BaseException",.type "object"]:=by rw[mroOf_type];kernel_rfl
structure Hy(G:aB):Prop where
 cJ:G.cJ "LispSignal"=some (.ref<|G.cls 0)
 lk:B8 G
 L6:t7 G 0
 init:∀d,(nH 0).ds.find? (λd=>d.name==("__init__":Str))=some d->∃f,FnAt (·<G.aq) G.s.heap f d.name ((nH 0).name++"."++d.name) d.params d.body d.scope/\qa G f
def Bh:Bool:=(match cQ bG (ae2 0)with
 |some (.cls k)=>(k.base.elim false λe=>h3 e (λn x=>n==("Exception":Str)) false)&&k.ds.map (·.name)==(["__init__"]:List Str)
 |_=>false)
theorem IF:Bh=true:=by kernel_rfl
theorem IH{N:Nat}{h0:Heap}{a:Addr}{name:Str}{ds:List bx}{d:bx}(x:dA aq N h0 a name ds bs [.ref a,.type "Exception",.type "BaseException",.type "object"] "Exception.__new__")(h:(ds.map (·.name)).Nodup)(g:dF.contains ("__init__":Str)=false)(j:ds.find? (λd=>d.name==("__init__":Str))=some d):
 ∃f,FnAt (·<aq) h0 f d.name (name++"."++d.name) d.params d.body d.scope/\iF h0 a f:=by
 refine Θ λn=>?_
 obtain⟨t,tq,ed,ns,b,m',p,o,i,_,_,_,_,_,l,m,c⟩:=x
 obtain⟨f,k,e⟩:=rv c h j
 exact n ⟨f,k,name,name,ns,bs,_,b,_,_,_,ed,none,some<|.str name t,some<|.str name tq,some<|.bool true,m',i,l.ns,(m _ g).trans e⟩
theorem l8:Hy G:=by
 refine Θ λr=>?_
 have c:=IF
 unfold Bh at c
 cases e:cQ bG (ae2 0)with
 |none=>rw[e]at c;exact absurd c Bool.false_ne_true
 |some it=>
 rw[e]at c
 cases it with
 |e7=>exact r<|absurd c Bool.false_ne_true
 |asg=>exact r<|absurd c Bool.false_ne_true
 |cls k=>
 obtain⟨c,m⟩:=bf c
 have m:=eq_of_beq m
 obtain⟨v,t,q⟩:=G.T.find e
 obtain⟨a,rfl,q⟩:=q
 have B:=Bj rfl t
 subst B
 cases p:k.base with
 |none=>rw[p]at c;exact absurd c Bool.false_ne_true
 |some b=>
  replace c:=p▸c;obtain⟨n,np,D,c⟩:=oe c
  ·subst D;obtain rfl:=eq_of_beq c;have l:=q.exc p rfl;have lk:∀(x:Str) y,typeLookup (.type "Exception") x=pure y->dF.contains x=false->(["__init__"]:List Str).contains x=false->∀h:Heap,(∀a o,G.s.heap.get? a=some o->h.get? a=some o)->fj h (G.cls 0) x y:=λx y z w u h i=>rS l i<|kL l i w (by rw[m];exact u)<|.ty PY z;refine r ?_;refine⟨t,⟨⟨gZ l⟩,lk _ _ _root_.PySem.F.attr_Exception.ga.lookup (by rfl) (by rfl),lk _ _ _root_.PySem.F.attrBase_Exception.noGetattr (by rfl) (by rfl),lk _ _ Fc (by decide)<|by decide⟩,⟨⟨_,⟨gZ l⟩,List.contains_iff_mem.mpr<|.tail _<|.tail _<|.tail _<|.head _,λx=>by kernel_rfl⟩,lk _ _ P0 (by decide) (by decide),λh i j x g=>?_⟩,λd s=>?_⟩
   ·match j,g with
    |0,g=>cases g;exact lk _ _ Fc (by decide) (by decide) h i
    |1,g=>cases g;exact lk _ _ PX (by decide) (by decide) h i
    |j+2,g=>exact nomatch g
   ·rw[A5 e]at s⊢;obtain⟨f,A,C⟩:=IH l (by rw[m];decide) (by decide) s;exact⟨f,A,⟨C⟩⟩
theorem um:sk G:=λc h0 b=>(jQ<|Ja h0 b).cls
theorem wj:rH G:=λc b=>by
 by_cases h:c=0
 ·subst h;exact l8.L6
 ·exact(um c h b).store
def XP:PQ.Internal.oW->Option ζ
 |.str x=>(fl afk x).map .str
 |.int i=>some (.int i)
 |.shl i j=>some (.int<|i*2^j.toNat)
 |.tup x=>(fl afk x).map λj=>.tup [.str j]
 |.name _=>none
def constOf(e:Expr):Option ζ:=(PQ.Internal.oW.of e).bind λc=>XP c.1
theorem yQ{x:Str}{j:Nat}(h:fl afk x=some j):strOf j=x:=by unfold strOf;rw[getD_eq_getElem?_getD,fE h];rfl
theorem CG{x:Str}{v:Value}(l:G.cJ x=some v)(f:PQ.Internal.valAt G.s.heap G.aq e v)(h:constOf e=some p):sl G x p:=by
 refine Θ λk=>?_
 obtain⟨⟨c,_⟩,d,h⟩:=Option.bind_eq_some_iff.mp h
 have f:=f _ d
 cases c with
 |str x=>obtain⟨j,m,rfl⟩:=Option.map_eq_some_iff.mp h;obtain⟨t,rfl⟩:=f;exact k ⟨_,l,λr σ b=>yQ m▸.str j t⟩
 |int|shl=>obtain rfl:=Φ h;obtain⟨t,rfl⟩:=f;exact k ⟨_,l,λr σ b=>.int _ t⟩
 |tup x=>
  obtain⟨j,m,rfl⟩:=Option.map_eq_some_iff.mp h;obtain⟨a,t,rfl,_,n⟩:=f;refine k ?_
  exact⟨_,l,λr σ b=>.tup (b.i1 _ _<|G.keep _ _ n) rfl λi x v d g=>by
   match i,d,g with
   |0,d,g=>cases d;cases g;exact yQ m▸.str j t
   |i+1,d,g=>cases d⟩
 |name=>exact k<|cR h
def IQ(x:Str):Option ζ:=match cQ bG x with
 |some (.asg _ _ e _)=>constOf e
 |_=>none
theorem M4{x:Str}(h:IQ x=some p):sl G x p:=by
 unfold IQ at h
 generalize e:cQ bG x=o at h
 cases o with
 |none=>exact cR h
 |some it=>
 cases it with
 |asg a b c d=>obtain⟨v,f,g⟩:=G.T.find e;exact CG f g h
 |_=>exact cR h
theorem Pe:(["len","max","min","abs","sorted","list","range"]:List Str).all (λx=>bG.all (λit=>!(it.name==x))&&decide (x∉startupNames))=true:=by kernel_rfl
theorem Ge{x:Str}(f:x∈(["len","max","min","abs","sorted","list","range"]:List Str)):G.cJ x=none:=by
 obtain⟨h,b⟩:=bf<|List.all_eq_true.mp Pe x f
 have b:=of_decide_eq_true b
 cases e:G.cJ x with
 |none=>rfl
 |some v=>
  rcases iq e with q|q
  ·obtain⟨y,d,c⟩:=List.mem_map.mp q;have:=List.all_eq_true.mp h _<|(G.T.all)▸List.mem_map.mpr ⟨y,d,rfl⟩;obtain⟨rfl,rfl⟩:=Prod.mk.inj c;rw[beq_self_eq_true]at this;exact absurd this Bool.false_ne_true
  ·rw[G.T.fix.others x b]at q;exact cR q
end
structure gP where
 k:Nat
 c:Nat
 x:Str
 i:Nat
 m:Nat
 cf:Cfg
 hi:Option ζ
 loc:Option<|List ζ->List Nat
def AX:aM->Option (Str×Str)
 |.asg x _ e _=>h3 e (λy z=>some (x,y)) none
 |_=>none
def defOf(x:Str):Option bx:=match cQ bG x with
 |some (.e7 d)=>some d
 |_=>none
def defAs(x:Str):Option bx:=(bG.findIdx? λit=>it.name==x).bind λi=>((bG[i]?).bind AX).bind λy=>match !(y.1==x)||(bG.drop<|i+1).any (λit=>it.name==x)with
 |true=>none
 |false=>match cQ (bG.take i) y.2 with
  |some (.e7 d)=>some d
  |_=>none
def y5(c:Nat)(x:Str):Option bx:=(nH c).ds.find? λd=>d.name==x
def m6(j:gP):Option bx:=match j.k with
 |0=>(defOf j.x).or (defAs j.x)
 |_=>y5 j.c j.x
noncomputable def xB(d:bx):List Str:=d.params.args.map (·.arg)
def restOf(d:bx):List Str:=(d.scope.names.filter λy=>(i4 (some y.2)==1||i4 (some y.2)==2)&&!(xB d).contains y.1&&!(y.1==(".0":Str))&&!(y.1==("refusal":Str))).map (·.1)
def afc(d:bx):aeY:=⟨d.scope,xB d++restOf d⟩
def lG(cm:Tab)(j:gP)(d:bx):cn:=av d.params.args.length j.hi (restOf d).length<|(ev cm j.cf 60<|afc d).jc d.body
def kO(o:Option<|List ζ->List Nat)(con:cn):cn:=match o with
 |none=>con
 |some J=>c3 J con
def yT(cm:Tab)(j:gP)(d:bx):cn:=kO j.loc (match j.k with
 |2=>gW j.c (lG cm j d)
 |_=>lG cm j d)
noncomputable def qr(p:gP->Bool):List (gP×cn)->Option cn
 |[]=>none
 |y::r=>match p y.1 with
  |true=>some y.2
  |false=>qr p r
noncomputable def nY:ζ->Option ζ
 |.tup [_,_,z]=>some z
 |_=>none
def afl(L:List<|gP×cn):Tab where
 fn x:=qr (λj=>j.k==0&&j.x==x) L
 nw x:=qr (λj=>j.k==2&&ae2 j.c==x) L
 mt c x:=qr (λj=>j.k==1&&j.c==c&&j.x==x) L
 gl:=IQ
 Nk x:=match x==("record_key":Str)with|true=>some nY|false=>none
 ex:=true
def sN:bx:=⟨"",⟨[],[],none,[],[],none,[]⟩,[],dV.main.scope,default⟩
def nM(j:gP):bx:=match dV.main.body[j.i]? with
 |some s=>match j.k with
  |0=>(toDefD s).getD sN
  |_=>((toClsD s).bind λk=>k.ds[j.m]?).getD sN
 |none=>sN
noncomputable def afh:List gP->List (gP×cn)
 |[]=>[]
 |j::b=>(j,yT (afl<|afh b) j<|nM j)::afh b
noncomputable def tw:List Str->Bool
 |[]=>true
 |x::xs=>!xs.contains x&&tw xs
theorem vU:∀{l:List Str},tw l=true->l.Nodup
 |[],_=>.nil
 |x::xs,h=>by obtain⟨b,c⟩:=bf h;exact nodup_cons.mpr ⟨λq=>by rw[List.contains_iff_mem.mpr q]at b;exact absurd b Bool.false_ne_true,vU c⟩
noncomputable def Dq(s:Scope):Bool:=match s.kind with|.function=>true|_=>false
def R8(sc:Scope)(n:Str):Bool:=(i4 (sc.names.lookup n)==1||i4 (sc.names.lookup n)==2)&&!(n==("__classdict__":Str))
structure ZW(d:bx):Prop where
 k:Dq d.scope=true
 n:(afc d).names.all (R8 d.scope)=true
 e1:tw (afc d).names=true
 z:(d.scope.names.lookup (".0":Str)).isNone=true
def G0(d:bx):Bool:=Dq d.scope&&(afc d).names.all (R8 d.scope)&&tw (afc d).names&&(d.scope.names.lookup (".0":Str)).isNone
theorem G1{d:bx}(h:G0 d=true):t6 d.scope<|xB d++restOf d:=by
 refine Θ λj=>?_;obtain⟨h,i⟩:=bf h;obtain⟨h,g⟩:=bf h;obtain⟨c,f⟩:=bf h;refine j ⟨?_,λn b=>?_,vU g,λn b=>?_,Option.isNone_iff_eq_none.mp i⟩
 ·unfold Dq at c;cases e:d.scope.kind<;>rw[e]at c<;>first|rfl|exact absurd c Bool.false_ne_true
 ·obtain⟨q,_⟩:=bf<|List.all_eq_true.mp f n b;rcases Bool.or_eq_true_iff.mp q with q|q
  ·exact .inl<|BC<|eq_of_beq q
  ·refine .inr ?_;have q:=eq_of_beq q;cases e:d.scope.names.lookup n with
   |none=>rw[e]at q;exact AP q
   |some k=>rw[e]at q;cases k<;>first|rfl|cases q
 ·exact(Bool.not_eq_true' _).mp (bf<|List.all_eq_true.mp f n b).2
noncomputable def Ub(c:Const)(q:ζ):Bool:=match c,q with
 |.bool b,.bool c=>b==c
 |.none,.none=>true
 |.int i,.int j=>i==j
 |_,_=>false
def K0(e:Expr)(q:ζ):Bool:=Tr e (λc x x=>Ub c q) false
def KZ(es:List Expr):Option ζ->Bool
 |none=>es.isEmpty
 |some q=>match es with
  |[e]=>K0 e q
  |_=>false
theorem Ir(h:K0 e q=true):DfltIs e q:=by
 refine Vw (Q:=λe b=>b=true->DfltIs e q) (λc k p h=>?_) w6 h
 cases c with
 |bool b=>
  cases q with
  |bool x=>obtain rfl:=eq_of_beq h;exact .bool ..
  |_=>exact w6 h
 |none=>
  cases q with
  |none=>exact .none ..
  |_=>exact w6 h
 |int i=>
  cases q with
  |int j=>obtain rfl:=eq_of_beq h;exact .int ..
  |_=>exact w6 h
 |_=>exact w6 h
theorem Iq{p:Arguments}{o:Option ζ}(h:KZ p.defaults o=true):dfltOk p o:=by
 cases o with
 |none=>exact List.isEmpty_iff.mp h
 |some q=>
  refine(?_:∃e,p.defaults=[e]/\DfltIs e q)
  generalize p.defaults=l at h
  cases l with
  |nil=>exact absurd h Bool.false_ne_true
  |cons e l=>
   cases l with
   |nil=>exact⟨e,rfl,Ir h⟩
   |cons=>exact absurd h Bool.false_ne_true
def CU(j:gP)(d:bx):Bool:=G0 d&&fH d.params&&!d.scope.isCoroutine&&!d.scope.isGenerator&&KZ d.params.defaults j.hi
theorem j2{X:Addr->Prop}{j:gP}{d:bx}{f:Addr}{nm q:Str}(T:fs G K cm)(h:CU j d=true)(c:FnAt X G.s.heap f nm q d.params d.body d.scope):d3 G (K+1) f<|lG cm j d:=by refine Θ λe=>?_;obtain⟨h,b⟩:=bf h;exact e<|d3.of_body Nq c j.hi ((K7 T 60 _).jc d.body) (bf (bf (bf h).1).1).2 ((Bool.not_eq_true' _).mp (bf (bf h).1).2) ((Bool.not_eq_true' _).mp (bf h).2) (G1 (bf (bf (bf h).1).1).1)<|Iq b
theorem dG.up{f:Value}(F:dG G K f con)(h:K<=gQ):dG G gQ f con:=λA r σ ps vs Q E b=>F A r σ ps vs Q E<|b.less h
theorem d3.up{f:Addr}(F:d3 G K f con)(h:K<=gQ):d3 G gQ f con:=⟨F.fn,F.rA.up h⟩
theorem dG.kO{G:aB}{K:Nat}{f:Value}{con:cn}{o:Option<|List ζ->List Nat}(F:dG G K f con):dG G K f<|kO o con:=by
 cases o with
 |none=>exact F
 |some J=>exact F.loc
noncomputable def sh:Tab:=⟨λx=>none,λx=>none,λx x=>none,λx=>none,λx=>none,false⟩
theorem BX:fs G 0 sh:=⟨(λy y h=>cR h),(λy y h=>cR h),(λy y y h=>cR h),(λy y h=>cR h),(λy y h=>cR h),(λh=>nomatch h),λx b=>Ge b,um,wj⟩
noncomputable def bc:Cfg:=⟨[],false,false⟩
def yU:gP:=⟨1,0,"__init__",0,0,bc,none,none⟩
def Jf:gP:=⟨0,0,"record_key",0,0,bc,none,none⟩
def Ad:bx:=(m6 yU).getD sN
def CQ:bx:=(m6 Jf).getD sN
theorem T7:y5 0 "__init__"=some Ad:=by kernel_rfl
theorem T8:CU yU Ad=true:=by kernel_rfl
theorem T9:CU Jf CQ=true:=by kernel_rfl
theorem MN(a:aD):(ev sh bc 60<|afc Ad).jc Ad.body a=xV (gh "symbol" (hC 0)<|hC 1) (xV (gh "data" (hC 0)<|hC 2) qh) a:=by kernel_rfl
theorem BU{x:Str}{b:List<|Option ζ}{v:ζ}(g:de ⟨ρ,σ++[.obj c b]⟩=.ok v ⟨ρ,σ++[.obj c b]⟩)(h:d ⟨ρ,σ++[.obj c b]⟩=.ok (.ref σ.length) ⟨ρ,σ++[.obj c b]⟩)(f:fl (fieldsOf c) x=some k):
 gh x d de ⟨ρ,σ++[.obj c b]⟩=.ok .next ⟨ρ,σ++[.obj c<|b.set k<|some v]⟩:=by
 unfold gh
 rw[g]
 show Res.bind (d _) _=_
 rw[h]
 show Res.of (Option.bind (Option.bind ((σ++[Ξ.obj c b])[σ.length]?) KP) _)=_
 rw[(getElem?_concat_length)]
 show Res.of (Option.bind (fl (fieldsOf c) x) λk=>some (aS.next,(⟨ρ,(σ++[Ξ.obj c b]).set σ.length<|.obj c<|b.set k<|some v⟩:aD)))=_
 rw[f]
 show Res.of (some (aS.next,(⟨ρ,(σ++[Ξ.obj c b]).set σ.length<|.obj c<|b.set k<|some v⟩:aD)))=_
 have e:(σ++[Ξ.obj c b]).set σ.length (.obj c<|b.set k<|some v)=σ++[.obj c<|b.set k<|some v]:=by rw[List.set_append_right _ _<|Nat.le_refl _,Nat.sub_self];rfl
 rw[e]
 rfl
theorem XK:sm<|lG sh yU Ad:=λσ k p=>by refine⟨[],?_⟩;refine(by kernel_rfl:lG sh yU Ad [.ref σ.length,.str k,p] (σ++[newObj 0])=toC ((ev sh bc 60<|afc Ad).jc Ad.body ⟨[some<|.ref σ.length,some<|.str k,some p],σ++[.obj 0 [none,none]]⟩)).trans ?_;rw[MN];show toC (Res.bind (gh "symbol" (hC 0) (hC 1) _) _)=_;rw[BU (d:=hC 0) (de:=hC 1) (v:=.str k) rfl rfl rfl];show toC (Res.bind (gh "data" (hC 0) (hC 2) ⟨_,σ++[.obj 0 [some<|.str k,none]]⟩) _)=_;rw[BU (d:=hC 0) (de:=hC 2) (v:=p) (k:=1) rfl rfl rfl];rfl
theorem XM:∃f,G.cJ "record_key"=some (.ref f)/\so G 1 f nY:=by
 refine Θ λg=>?_
 have e:cQ bG "record_key"=some (.e7 CQ):=by kernel_rfl
 obtain⟨v,d,f,rfl,_,c⟩:=G.T.find e
 refine g ⟨f,d,lG sh Jf CQ,j2 BX T9 c,λx y σ h=>?_⟩
 cases x with
 |tup l=>
  cases l with
  |nil=>exact cR h
  |cons a l=>
  cases l with
  |nil=>exact cR h
  |cons b l=>
  cases l with
  |nil=>exact cR h
  |cons z l=>
  cases l with
  |nil=>obtain rfl:=Φ h;exact⟨[],by kernel_rfl⟩
  |cons=>exact cR h
 |_=>exact cR h
theorem XU:∃f,qa G f/\d3 G 1 f (lG sh yU Ad):=by obtain⟨f,b,c⟩:=l8.init Ad T7;exact⟨f,c,j2 BX T8 b⟩
theorem n1{p:gP->Bool}{con:cn}:∀{L:List<|gP×cn},qr p L=some con->∃j,(j,con)∈L/\p j=true
 |[],h=>nomatch h
 |y::r,h=>by
  have h:(match p y.1 with|true=>some y.2|false=>qr p r)=some con:=h
  cases q:p y.1 with
  |true=>rw[q]at h;cases h;exact⟨y.1,.head _,q⟩
  |false=>rw[q]at h;obtain⟨j,b,c⟩:=n1 h;exact⟨j,.tail _ b,c⟩
def jB(G:aB)(K:Nat)(j:gP)(con:cn):Prop:=match j.k with
 |0=>∃f,G.cJ j.x=some (.ref f)/\d3 G K f con
 |1=>mO G K j.c j.x con
 |_=>∃fI,w7 G j.c fI/\G.cJ (ae2 j.c)=some (.ref<|G.cls j.c)/\dG G K (.ref<|G.cls j.c) con
theorem mO.up{x:Str}(m:mO G K c x con)(h:K<=gQ):mO G gQ c x con:=by obtain⟨f,F,M⟩:=m.ex;exact⟨⟨f,F.up h,M⟩,m.ok⟩
theorem jB.up{j:gP}(x:jB G K j con)(h:K<=gQ):jB G gQ j con:=by
 unfold jB at x⊢
 generalize j.k=k at x⊢
 match k,x with
 |0,x=>obtain⟨f,b,F⟩:=x;exact⟨f,b,F.up h⟩
 |1,x=>exact x.up h
 |k+2,x=>obtain⟨f,b,c,F⟩:=x;exact⟨f,b,c,F.up h⟩
def xp(G:aB)(K:Nat)(L:List<|gP×cn):Prop:=∀y∈L,jB G K y.1 y.2
theorem zO{L:List<|gP×cn}(h:xp G K L)(l:2<=K):fs G K (afl L)where
 fn x con e:=by obtain⟨j,d,b⟩:=n1 e;obtain⟨i,g⟩:=bf b;obtain rfl:=eq_of_beq g;have:=h _ d;unfold jB at this;replace this:=((eq_of_beq i:j.k=0))▸this;exact this
 nw x con e:=by obtain⟨j,d,b⟩:=n1 e;obtain⟨i,g⟩:=bf b;obtain rfl:=eq_of_beq g;have:=h _ d;unfold jB at this;replace this:=((eq_of_beq i:j.k=2))▸this;obtain⟨fI,a1,a2,o⟩:=this;exact⟨_,fI,a1,a2,o⟩
 mt c x con e:=by obtain⟨j,d,b⟩:=n1 e;obtain⟨m,g⟩:=bf (bf b).1;obtain rfl:=eq_of_beq g;obtain rfl:=eq_of_beq (bf b).2;have:=h _ d;unfold jB at this;replace this:=((eq_of_beq m:j.k=1))▸this;exact this
 gl x p e:=M4 e
 Nk x k e:=by
  refine Θ λn=>?_
  have e:(match x==("record_key":Str)with|true=>some nY|false=>none)=some k:=e
  cases q:x==("record_key":Str)with
  |false=>rw[q]at e;exact cR e
  |true=>replace e:=q▸e;obtain⟨f,d,b⟩:=XM (G:=G);obtain rfl:=Φ e;obtain rfl:=eq_of_beq q;exact n ⟨f,1,d,b,l⟩
 ex _:=by obtain⟨f,d,b⟩:=XU;exact⟨f,_,1,d,l8.lk,b,XK,l8.cJ,l⟩
 bi x r:=Ge r
 cls:=um
 L6:=wj
def Ds(j:gP):Bool:=CU j (nM j)&&match j.k with
 |0=>true
 |1=>kN j.c&&afi j.x&&!(fieldsOf j.c).contains j.x
 |2=>kN j.c&&j.x==("__init__":Str)
 |_=>false
theorem pJ(h:kN c=true):c≠0/\fieldsOf c≠[]:=by exact(by decide:∀c:Fin 13,kN c.1=true->c.1≠0/\fieldsOf c.1≠[]) ⟨c,of_decide_eq_true (bf h).1⟩ h
theorem yk:∀(c b:List<|Str×Value) (m:Str->Option Value),ae4 (c++b) m=ae4 b (ae4 c m)
 |[],_,_=>rfl
 |(_,_)::r,b,m=>yk r b _
theorem vG{x:Str}:∀{l:List<|Str×Value} {m:Str->Option Value},l.any (λy=>y.1==x)=false->ae4 l m x=m x
 |[],_,_=>rfl
 |(n,v)::r,m,h=>by rw[any_cons,Bool.or_eq_false_iff]at h;exact(vG (l:=r) h.2).trans (if_neg λq=>by have b:(n==x)=false:=h.1;rw[q,beq_self_eq_true]at b;exact Bool.noConfusion b)
theorem HH{i:Nat}{x y:Str}{d:bx}{it:aM}(l:bG[i]?=some it)(c:AX it=some (x,y))(k:(bG.drop<|i+1).any (λit=>it.name==x)=false)(u:cQ (bG.take i) y=some (.e7 d)):
 ∃f,G.cJ x=some (.ref f)/\FnAt (·<G.aq) G.s.heap f d.name d.name d.params d.body d.scope:=by
 refine Θ λD=>?_
 obtain⟨p,b,pos,rfl⟩:∃p b pos,it=.asg x p (.Name y b) pos:=by
  cases it with
  |asg C p e pos=>exact od (Q:=λe o=>o=some (x,y)->∃s b h,aM.asg C p e pos=.asg x s (.Name y b) h) (λE b c=>by obtain⟨rfl,rfl⟩:=Prod.mk.inj<|Φ c;exact⟨_,_,_,rfl⟩) cR c
  |_=>exact cR c
 have g:G.D.map (·.1)=bG.take i++.asg x p (.Name y b) pos::bG.drop (i+1):=by rw[G.T.all,←(b8 l).2,←drop_eq_getElem_cons ((b8 l).1),take_append_drop]
 obtain⟨q,R,j,t,w⟩:=List.map_eq_append_iff.mp g
 obtain⟨⟨a,v⟩,r,rfl,z,B⟩:=map_eq_cons_iff.mp w
 subst z
 have c:=G.T.inv.alias q x p y b pos v r j
 obtain⟨H,m,n⟩:=vF q.reverse (by rw[List.reverse_reverse,t];exact u)
 rw[List.reverse_reverse]at m n
 obtain rfl:=Φ<|c.symm.trans n
 obtain⟨f,rfl,_,F⟩:=G.T.inv.items _<|(j)▸List.mem_append_left _ m
 refine D ⟨f,?_,F⟩
 unfold aB.cJ
 simp only[j,List.map_append,yk]
 have A:(r.map λx=>(x.1.name,x.2)).any (λy=>y.1==x)=false:=by rw[←B]at k;rw[List.any_map]at k;rw[List.any_map];exact k
 exact(vG A).trans<|if_pos rfl
theorem Ip{x:Str}{d:bx}(h0:defAs x=some d):∃f,G.cJ x=some (.ref f)/\FnAt (·<G.aq) G.s.heap f d.name d.name d.params d.body d.scope:=
 ω h0 λi p κ=>ω κ λy l h=>ω l λit c g=>by
  refine Θ λm=>?_
  clear h0 κ
  cases q:!(y.1==x)||(bG.drop<|i+1).any (λit=>it.name==x)with
  |true=>rw[q]at h;exact cR h
  |false=>
   replace h:=q▸h
   obtain⟨e,j⟩:=Bool.or_eq_false_iff.mp q
   cases (eq_of_beq ((Bool.not_eq_false' _).mp e):y.1=x)
   have h:=h
   refine m ?_
   generalize k:cQ (bG.take i) y.2=o at h
   cases o with
   |none=>exact cR h
   |some b=>
   cases b with
   |e7 n=>obtain rfl:=Φ h;exact HH c g j k
   |_=>exact cR h
theorem P5{x:Str}{d:bx}(h:(defOf x).or (defAs x)=some d):∃f,G.cJ x=some (.ref f)/\FnAt (·<G.aq) G.s.heap f d.name d.name d.params d.body d.scope:=by
 refine Θ λb=>?_
 cases e:defOf x with
 |some k=>
  replace h:=e▸h
  obtain rfl:=Φ h
  unfold defOf at e
  generalize i:cQ bG x=o at e
  cases o with
  |none=>exact cR e
  |some c=>
  cases c with
  |e7 d5=>obtain rfl:=Φ e;obtain⟨v,j,f,rfl,_,g⟩:=G.T.find i;exact b ⟨f,j,g⟩
  |_=>exact cR e
 |none=>replace h:=e▸h;exact b<|Ip h
theorem y4{x:Str}{d:bx}(b:kN c=true)(e:dF.contains x=false)(h:y5 c x=some d):∃f,FnAt (·<G.aq) G.s.heap f d.name ((nH c).name++"."++d.name) d.params d.body d.scope/\xv G c x f:=(jQ b).Yu x d e h
theorem d3.kO{G:aB}{K:Nat}{f:Addr}{con:cn}{o:Option<|List ζ->List Nat}(F:d3 G K f con):d3 G K f<|kO o con:=⟨F.fn,F.rA.kO⟩
theorem F0{j:gP}(T:fs G K cm)(b:m6 j=some (nM j))(h:Ds j=true):jB G (K+2) j<|yT cm j<|nM j:=by
 unfold Ds at h
 generalize nM j=d at b h⊢
 obtain⟨n,c⟩:=bf h
 unfold m6 at b
 unfold jB yT
 generalize j.k=k at b c⊢
 match k,b,c with
 |0,b,c=>obtain⟨f,l,i⟩:=P5 b;exact⟨f,l,((j2 T n i).up<|le_succ _).kO⟩
 |1,b,c=>refine Θ λs=>?_;obtain⟨c,p⟩:=bf c;obtain⟨e,g⟩:=bf c;obtain⟨f,l,i⟩:=y4 e (tc g).2.1 b;exact s ⟨⟨f,((j2 T n l).up<|le_succ _).kO,i⟩,g,(Bool.not_eq_true' _).mp p,pJ e⟩
 |2,b,c=>refine Θ λq=>(Θ λo=>?_);refine Θ λr=>?_;obtain⟨e,g⟩:=bf c;obtain⟨f,l,i⟩:=y4 e (by rw[eq_of_beq g];decide) b;refine r<|o ?_;refine q ?_;exact⟨f,(⟨(pJ e).1,(jQ e).new,λh m=>by have:=i.look h m;rw[(eq_of_beq g:j.x=_)]at this;exact this⟩),(jQ e).cJ,(dG.new (⟨(pJ e).1,(jQ e).new,λh m=>by have:=i.look h m;rw[(eq_of_beq g:j.x=_)]at this;exact this⟩)<|j2 T n l).kO⟩
 |k+3,b,c=>exact absurd c Bool.false_ne_true
theorem xJ{G:aB}:∀{c:List gP},c.all Ds=true->(∀j∈c,m6 j=some (nM j))->xp G (2*c.length+2) (afh c)
 |[],_,_=>λy b=>nomatch b
 |j::c,h,e=>by
  rw[all_cons]at h;obtain⟨f,g⟩:=bf h;have d:=xJ (G:=G) g λj q=>e j<|.tail _ q;intro y b;rcases ae6 b with rfl|b
  ·exact F0 (zO d<|le_add_left _ _) (e j<|.head _) f
  ·exact(d y b).up (by rw[length_cons,mul_succ];exact le_add_right _ 2)
noncomputable def dU:List ζ->List Nat:=λx=>[]
noncomputable def r0:List ζ->List Nat
 |.ref i::_=>[i,i+1,i+2,i+3,i+4,i+5,i+6]
 |_=>[]
noncomputable def Rw:List ζ->List Nat
 |.ref i::_=>[i,i+1,i+2,i+3]
 |_=>[]
noncomputable def xd:List ζ->List Nat
 |[.ref i,_,.ref k]=>[i,i+1,i+2,i+3,i+4,i+5,i+6,k]
 |_=>[]
def jm:List gP:=[⟨0,0,"law",124,0,⟨["deck"],false,true⟩,none,none⟩,⟨0,0,"_law_passed",123,0,bc,none,some r0⟩,⟨0,0,"_law_done",122,0,bc,none,some xd⟩,⟨0,0,"_law_buffer",121,0,bc,none,none⟩,⟨0,0,"_law_text",120,0,bc,none,some r0⟩,⟨0,0,"_law_draw",119,0,bc,none,none⟩,⟨0,0,"insert",17,0,bc,some<|.bool false,some Rw⟩,⟨2,11,"__init__",67,0,bc,none,none⟩,⟨2,9,"__init__",54,0,⟨["rows"],false,false⟩,none,none⟩,⟨2,7,"__init__",34,0,bc,some<|.int 8,none⟩,⟨2,5,"__init__",30,0,bc,none,none⟩,⟨2,4,"__init__",28,0,⟨["cells"],false,false⟩,none,none⟩,⟨0,0,"undo_group",63,0,bc,none,none⟩,⟨0,0,"above_boundaries",62,0,bc,none,none⟩,⟨0,0,"undo_row",61,0,bc,none,none⟩,⟨0,0,"undo_delete",60,0,bc,none,none⟩,⟨0,0,"insert_piece",49,0,bc,none,none⟩,⟨0,0,"undo_insert",59,0,bc,none,none⟩,⟨0,0,"markers_ahead",58,0,bc,none,none⟩,⟨0,0,"need_visible",57,0,bc,none,none⟩,⟨0,0,"sort_rows",117,0,bc,none,none⟩,⟨0,0,"put_ordered",116,0,bc,none,none⟩,⟨0,0,"row_records",114,0,⟨["found"],false,false⟩,none,some dU⟩,⟨0,0,"put_in_order",113,0,⟨["found"],false,false⟩,none,some dU⟩,⟨0,0,"ordered",111,0,bc,none,none⟩,⟨0,0,"rows_between",110,0,⟨["found"],false,false⟩,none,some dU⟩,⟨0,0,"yank_rectangle",105,0,bc,none,none⟩,⟨0,0,"behind_last",106,0,bc,none,none⟩,⟨0,0,"row_columns_from",107,0,bc,none,none⟩,⟨0,0,"string_rectangle",104,0,bc,none,none⟩,⟨0,0,"open_rectangle",103,0,bc,none,none⟩,⟨0,0,"kill_rectangle",102,0,bc,none,none⟩,⟨0,0,"delete_rectangle",101,0,bc,none,none⟩,⟨0,0,"extract_rectangle",100,0,bc,none,none⟩,⟨0,0,"put_rows",99,0,bc,none,none⟩,⟨0,0,"put_row",98,0,bc,none,none⟩,⟨0,0,"common_many",97,0,bc,none,none⟩,⟨0,0,"span_of",96,0,bc,none,none⟩,⟨0,0,"column_of",95,0,bc,none,none⟩,⟨0,0,"text_of",94,0,⟨["codes"],false,false⟩,none,some dU⟩,⟨0,0,"rows_in",93,0,⟨["rows"],true,false⟩,none,some dU⟩,⟨2,12,"__init__",92,0,bc,none,some dU⟩,⟨0,0,"put_in_rectcols",88,0,bc,none,none⟩,⟨0,0,"replaced",87,0,bc,none,none⟩,⟨0,0,"opened_up",86,0,bc,none,none⟩,⟨0,0,"erased",85,0,bc,none,none⟩,⟨0,0,"extracted",84,0,bc,none,none⟩,⟨0,0,"spread",83,0,⟨["found"],false,false⟩,none,some dU⟩,⟨0,0,"cut_between",82,0,bc,none,none⟩,⟨0,0,"cut_at",81,0,bc,none,none⟩,⟨0,0,"padded",80,0,bc,none,none⟩,⟨0,0,"opened",79,0,bc,none,none⟩,⟨0,0,"place_at",78,0,bc,none,none⟩,⟨0,0,"row_columns",77,0,bc,none,none⟩,⟨0,0,"column_at",76,0,bc,none,none⟩,⟨0,0,"column_behind",75,0,bc,none,none⟩,⟨0,0,"line_end",71,0,bc,none,none⟩,⟨0,0,"line_start",70,0,bc,none,none⟩,⟨0,0,"replaced_all",26,0,bc,none,some r0⟩,⟨2,3,"__init__",25,0,⟨["steps"],false,false⟩,none,none⟩,⟨1,3,"put_all",25,7,bc,none,none⟩,⟨1,3,"go_on",25,5,bc,none,none⟩,⟨1,3,"pass_by",25,6,bc,none,none⟩,⟨1,3,"put_new",25,4,bc,none,none⟩,⟨1,3,"look",25,1,bc,none,none⟩,⟨1,3,"meet",25,2,bc,none,none⟩,⟨1,3,"stand",25,3,bc,none,none⟩,⟨2,2,"__init__",24,0,bc,none,some dU⟩,⟨1,1,"made",23,1,bc,none,none⟩,⟨2,1,"__init__",23,0,bc,none,some dU⟩,⟨1,8,"tell",40,5,bc,none,none⟩,⟨1,8,"told",40,4,bc,none,none⟩,⟨1,8,"near",40,3,bc,none,none⟩,⟨1,8,"next",40,2,bc,none,none⟩,⟨1,8,"fits",40,1,bc,none,none⟩,⟨2,8,"__init__",40,0,bc,none,some dU⟩,⟨0,0,"replace",19,0,bc,some .none,none⟩,⟨0,0,"delete",18,0,bc,none,none⟩,⟨0,0,"insert",17,0,bc,some<|.bool false,none⟩,⟨0,0,"insert_at",16,0,bc,some<|.bool false,none⟩,⟨0,0,"put_in_editing",14,0,bc,none,none⟩,⟨0,0,"hung_in",13,0,bc,none,none⟩,⟨0,0,"hung_out",12,0,bc,none,none⟩,⟨0,0,"text_in",11,0,bc,none,none⟩,⟨0,0,"text_out",10,0,bc,none,none⟩,⟨0,0,"tell_behind",9,0,bc,none,none⟩,⟨0,0,"tell_ahead",8,0,bc,none,none⟩,⟨0,0,"reached",7,0,bc,none,none⟩,⟨0,0,"need_room",6,0,bc,none,none⟩,⟨0,0,"need_writable",5,0,bc,none,none⟩,⟨1,11,"text_goes",67,2,bc,none,none⟩,⟨1,11,"text_comes",67,1,bc,none,none⟩,⟨2,10,"__init__",65,0,bc,none,some dU⟩,⟨1,9,"note_delete",54,8,bc,none,none⟩,⟨1,9,"note_insert",54,7,bc,none,none⟩,⟨1,9,"note_begin",54,6,bc,none,none⟩,⟨1,9,"note_state",54,5,bc,none,none⟩,⟨1,9,"boundary",54,3,bc,none,none⟩,⟨1,9,"is_at_boundary",54,2,bc,none,none⟩,⟨1,7,"touch",34,12,bc,none,none⟩,⟨1,7,"is_modified",34,10,bc,none,none⟩,⟨1,7,"goto",34,8,bc,none,none⟩,⟨1,7,"codes",34,7,bc,none,none⟩,⟨1,7,"code_at",34,6,bc,none,none⟩,⟨1,7,"size",34,5,bc,none,none⟩,⟨1,7,"end",34,4,bc,none,none⟩,⟨1,7,"begin",34,3,bc,none,none⟩,⟨1,5,"replaced",30,7,bc,none,none⟩,⟨1,5,"deleted",30,6,bc,none,none⟩,⟨1,5,"inserted",30,5,bc,none,none⟩,⟨1,5,"within",30,4,bc,none,none⟩,⟨1,5,"numbers",30,1,bc,none,none⟩,⟨1,4,"delete",28,7,bc,none,none⟩,⟨1,4,"insert",28,6,bc,none,none⟩,⟨1,4,"widen_gap",28,5,bc,none,none⟩,⟨1,4,"move_gap",28,4,bc,none,none⟩,⟨1,4,"codes",28,3,bc,none,none⟩,⟨1,4,"code",28,2,bc,none,none⟩,⟨1,4,"size",28,1,bc,none,none⟩]
set_option maxHeartbeats 4000000 in
theorem Nh:jm.all Ds=true:=by kernel_rfl
set_option maxHeartbeats 4000000 in
theorem Jg:jm.map m6=jm.map λj=>some<|nM j:=by kernel_rfl
theorem RO{f g:α->β}:∀{l:List α},l.map f=l.map g->∀x∈l,f x=g x:=List.map_inj_left.mp
theorem Ng:xp G (2*jm.length+2)<|afh jm:=xJ Nh<|RO Jg
def Λ(x:Str):cn:=((afl<|afh jm).fn x).getD λy y=>.stuck
def bw(c:Nat)(x:Str):cn:=((afl<|afh jm).mt c x).getD λy y=>.stuck
def fW(c:Nat):cn:=((afl<|afh jm).nw<|ae2 c).getD λx x=>.stuck
theorem RJ:∃f,G.cJ "law"=some (.ref f)/\d3 G (2*jm.length+2) f (Λ "law"):=(zO Ng<|le_add_left _ _).fn _ _ (by kernel_rfl)
def Et:Prop:=∀ns:List Int,ns.length<=63->∃a,Λ "law" [.arg<|ns.map .int] []=.ok (.bool true) a
theorem yV:claimMargin+1+(2*jm.length+2)<=700/\4+8*(2*jm.length+2)<=9000:=by decide+kernel
theorem yL{r:ax}{ns:List Int}(h:IntsAre vs ns):bV G r (ns.map .int) vs:=by
 induction h with
 |nil=>exact .nil
 |cons n t _ b=>exact .cons (.int n t) b
theorem TL(H:Et):AU:=λw V s aO c cS F aq bU d0 h0 D l T g R f L vs ns U P E M=>by
 refine Θ λX=>?_;obtain⟨G,d⟩:∃G:aB,G=⟨w,V,s,aO.heap,aO.os,c,cS,F,aq,bU,d0,h0,D,l,T,g⟩:=⟨_,rfl⟩;have J:G.cI=aO.heap:=by rw[d]
 have C:G.os=aO.os:=by rw[d]
 have O:G.w=w:=by rw[d]
 obtain⟨Y,t,x⟩:=RJ (G:=G);have S:G.cJ "law"=some (.ref f):=by rw[d];exact U
 clear d;subst O;obtain rfl:=Value.ref.inj<|Φ<|S.symm.trans t;obtain⟨r,K,u,I⟩:∃r:ax,r.s=aO/\(∀a,r.T a=match aO.heap.get? a with|some o=>.z o|none=>.no)/\r.a6=[]:=⟨⟨aO,_,[]⟩,rfl,λW=>rfl,rfl⟩;subst K;have hz:∀a o,r.h.get? a=some o->r.T a=.z o:=λa o e=>by refine(u a)▸?_;rw[e]
 have A:∀a o,r.T a=.z o->r.h.get? a=some o:=λa o e=>by
  replace e:=(u a)▸e
  cases q:r.s.heap.get? a with
  |none=>rw[q]at e;cases e
  |some bu=>rw[q]at e;cases e;rfl
 have n:∀a,r.T a=.no\/∃o,r.T a=.z o:=λa=>by
  refine(u a)▸?_
  cases r.s.heap.get? a with
  |none=>exact .inl rfl
  |some o=>exact .inr ⟨o,rfl⟩
 have B:ae0 G r []:=⟨λa o e=>hz a o (by rw[J]at e;exact e),A,by rw[I];rfl,λi ro m e=>(by rw[I,getElem?_nil]at e;cases e),λa q=>(n a).elim (λe=>(q e).elim) λj=>Exists.elim j λo e=>⟨o,A a o e⟩,R,C.symm,λa i e=>(n a).elim (λq=>nomatch q.symm.trans e) λj=>Exists.elim j λo q=>nomatch q.symm.trans e⟩;have Q:∀b,r.T b≠.fr:=λb e=>(n b).elim (λq=>Tag.noConfusion<|q.symm.trans e) λj=>Exists.elim j λo q=>Tag.noConfusion<|q.symm.trans e;have N:Rel G r (.arg<|ns.map .int)<|.ref L:=by obtain⟨o,t,x⟩:=P;exact .arg (λh z=>⟨o,z L o<|hz L o t,x⟩) (yL (G:=G) (r:=r) E).len (yL E).get
 obtain⟨a,p⟩:=H ns M;refine X ?_;refine x.rA callerA r [] [.arg<|ns.map .int] [.ref L] _ _ ⟨rfl,by rw[show callerA.depth=1+claimMargin from rfl,Nat.add_comm 1];exact yV.1,yV.2⟩ ⟨[],rfl,λW h=>nomatch h⟩ B Q (.cons N .nil) ?_;simp only[p];intro v r' k Z _ y;cases y;exact⟨rfl,λb o e=>k.fy b o<|k.i1 b o<|(J)▸e,k.os.trans C,k.gens⟩
set_option genCtorIdx false in
inductive agh where
 |T {b:Bool} (h:b=true)
 |F {b:Bool} (h:b=false)
 |v {d:aD->Res ζ} {q:ζ} (h:∀a,d a=.ok q a)
 |w (i:Nat) {m:Ξ} {d:aD->Res ζ} {q:ζ} (h:∀a,a.σ[i]?=some m->d a=.ok q a)
 |u (i:Nat) {m m':Ξ} {d:aD->Res ζ} {q:ζ} (h:∀a,a.σ[i]?=some m->d a=.ok q ⟨a.ρ,a.σ.set i m'⟩)
 |U (i:Nat) {m m':Ξ} {d:aD->Res aS} (h:∀a,a.σ[i]?=some m->d a=.ok .next ⟨a.ρ,a.σ.set i m'⟩)
 |c {con:List ζ->List Ξ->Res ζ} {ps:List ζ} {σ:List Ξ} {q:ζ} {σ':List Ξ} (h:con ps σ=.ok q ⟨[],σ'⟩)
 |e {con:List ζ->List Ξ->Res ζ} {ps:List ζ} {σ:List Ξ} {k:Nat} {σ':List Ξ} (h:con ps σ=.err k ⟨[],σ'⟩)
 |s {d:aD->Res aS} {a:aD} {f:aS} {a':aD} (h:d a=.ok f a')
 |Vh {d:aD->Res aS} {a:aD} {k:Nat} {a':aD} (h:d a=.err k a')
 |l {d:aD->Res (List ζ)} {a:aD} {q:List ζ} {a':aD} (h:d a=.ok q a')
 |k
noncomputable abbrev ae8:=List agh
set_option genCtorIdx false in
inductive kF where
 |b (b:Bool)
 |d (d:aD->Res ζ)
 |f (d:aD->Res aS)
 |o (o:Option Ξ)
 |c (r:Res ζ)
 |s (d:aD->Res aS) (a:aD)
 |l (d:aD->Res (List ζ)) (a:aD)
set_option genCtorIdx false in
inductive fP(β:Type)where
 |ok (b:β) (a:aD) (p:ae8) (c:List (kF×kF))
 |err (k:Nat) (a:aD) (p:ae8) (c:List (kF×kF))
 |no
 |ask (x:kF) (a:aD) (p:ae8)
variable {α β hb:Type}
noncomputable def k2:List (kF×kF)->Prop
 |[]=>True
 |c::cs=>c.1=c.2/\k2 cs
theorem k2.app:∀{l m:List<|kF×kF},k2 (l++m)->k2 l/\k2 m
 |[],_,h=>⟨trivial,h⟩
 |_::_,_,h=>⟨⟨h.1,(k2.app h.2).1⟩,(k2.app h.2).2⟩
theorem k2.of:∀{l:List<|kF×kF},l.map (·.1)=l.map (·.2)->k2 l
 |[],_=>trivial
 |_::_,h=>⟨(List.cons.inj h).1,k2.of (List.cons.inj h).2⟩
noncomputable def fP.add(c:List<|kF×kF):fP β->fP β
 |.ok b a p d=>.ok b a p (c++d)
 |.err k a p d=>.err k a p (c++d)
 |.no=>.no
 |.ask x a p=>.ask x a p
def fP.bind(x:fP α)(f:α->aD->ae8->fP β):fP β:=match x with
 |.ok b a p c=>(f b a p).add c
 |.err k a p c=>.err k a p c
 |.no=>.no
 |.ask x a p=>.ask x a p
def fP.fits(x:fP β)(r:Res β):Prop:=match x with
 |.ok b a _ c=>k2 c->r=.ok b a
 |.err k a _ c=>k2 c->r=.err k a
 |.no=>True
 |.ask _ _ _=>True
def afg(d:aD->Res β)(x:aD->ae8->fP β):Prop:=∀a p,(x a p).fits<|d a
structure aa(β:Type)where
 d:aD->Res β
 x:aD->ae8->fP β
 ok:afg d x
theorem fP.rI{c:List<|kF×kF}{x:fP β}{r:Res β}(h:k2 c->x.fits r):(x.add c).fits r:=by
 cases x with
 |ok b a p d=>exactλq=>h q.app.1 q.app.2
 |err k a p d=>exactλq=>h q.app.1 q.app.2
 |no=>trivial
 |ask=>trivial
theorem fP.EP{x:fP α}{r:Res α}{f:α->aD->Res β}{g:α->aD->ae8->fP β}(h:x.fits r)(k:∀b,afg (f b)<|g b):(x.bind g).fits<|r.bind f:=by
 cases x with
 |ok b a p c=>exact fP.rI λq=>by cases h q;exact k b a p
 |err k a p c=>exactλq=>by cases h q;rfl
 |no=>trivial
 |ask=>trivial
def aa.bind(m:aa α)(f:α->aa β):aa β:=⟨λa=>(m.d a).bind λb=>(f b).d,λa p=>(m.x a p).bind λb=>(f b).x,λa p=>fP.EP (m.ok a p) λb=>(f b).ok⟩
noncomputable def uN(r:Res β)(p:ae8):fP β:=match r with|.ok b a=>.ok b a p []|.err k a=>.err k a p []|.stuck=>.no
theorem jZ{r:Res β}{p:ae8}:(uN r p).fits r:=by cases r<;>first|exactλx=>rfl|trivial
def aa.now(d:aD->Res β):aa β:=⟨d,λa p=>uN (d a) p,λa p=>jZ⟩
noncomputable def W5:kF->Bool
 |.b b=>b
 |_=>true
noncomputable def Tn:kF->aD->Res ζ
 |.d d=>d
 |_=>λx=>.stuck
noncomputable def acD:kF->aD->Res aS
 |.f d=>d
 |_=>λx=>.stuck
noncomputable def To:kF->Option Ξ
 |.o d=>d
 |_=>none
noncomputable def W6:kF->Res ζ
 |.c r=>r
 |_=>.stuck
noncomputable def W7:kF->Res aS
 |.s d a=>d a
 |_=>.stuck
noncomputable def acE:kF->Res (List ζ)
 |.l d a=>d a
 |_=>.stuck
def Dv(d:aD->Res ζ)(a:aD):ae8->fP ζ
 |[]=>.ask (.d d) a []
 |x::p=>match x with
  |.v (d:=b) (q:=q) _=>.ok q a p [(.d d,.d b)]
  |.w i (m:=m) (d:=b) (q:=q) _=>.ok q a p [(.d d,.d b),(.o a.σ[i]?,.o<|some m)]
  |.u i (m:=m) (m':=m') (d:=b) (q:=q) _=>.ok q ⟨a.ρ,a.σ.set i m'⟩ p [(.d d,.d b),(.o a.σ[i]?,.o<|some m)]
  |.k=>uN (d a) p
  |x=>.ask (.d d) a (x::p)
theorem yY(d:aD->Res ζ):afg d<|Dv d:=λa p=>by
 cases p with
 |nil=>trivial
 |cons x p=>
  cases x with
  |v h=>exactλq=>by rw[show d=_ from congrArg Tn q.1];exact h a
  |w i h=>exactλq=>by rw[show d=_ from congrArg Tn q.1];exact h a<|congrArg To q.2.1
  |u i h=>exactλq=>by rw[show d=_ from congrArg Tn q.1];exact h a<|congrArg To q.2.1
  |k=>exact jZ
  |_=>trivial
def aa.leaf(d:aD->Res ζ):aa ζ:=⟨d,Dv d,yY d⟩
def aa.try(b:Bool)(d:aD->Res ζ):aa ζ:=⟨d,λa p=>match b with|true=>uN (d a) p|false=>Dv d a p,λa p=>by
 cases b with
 |true=>exact jZ
 |false=>exact yY d a p⟩
def VR(b:Bool)(x y:aD->ae8->fP β)(a:aD):ae8->fP β
 |[]=>.ask (.b b) a []
 |z::p=>match z with
  |.T (b:=b') _=>(x a p).add [(.b b,.b b')]
  |.F (b:=b') _=>(y a p).add [(.b b,.b b')]
  |.k=>match b with|true=>x a p|false=>y a p
  |z=>.ask (.b b) a (z::p)
theorem Pg(b:Bool)(x y:aa β):afg (λa=>if b then x.d a else y.d a)<|VR b x.x y.x:=λa p=>by
 cases p with
 |nil=>trivial
 |cons z p=>
  cases z with
  |T h=>exact fP.rI λq=>by cases (congrArg W5 q.1).trans h;exact x.ok a p
  |F h=>exact fP.rI λq=>by cases (congrArg W5 q.1).trans h;exact y.ok a p
  |k=>
   cases b with
   |true=>exact x.ok a p
   |false=>exact y.ok a p
  |_=>trivial
def aa.Pf(b:Bool)(x y:aa β):aa β:=⟨λa=>if b then x.d a else y.d a,VR b x.x y.x,Pg b x y⟩
def O6(d:aD->Res aS)(a:aD):ae8->fP aS
 |[]=>.ask (.s d a) a []
 |z::p=>match z with
  |.s (d:=b) (a:=a1) (f:=f) (a':=a') _=>.ok f a' p [(.s d a,.s b a1)]
  |.Vh (d:=b) (a:=a1) (k:=k) (a':=a') _=>.err k a' p [(.s d a,.s b a1)]
  |.U i (m:=m) (m':=m') (d:=b) _=>.ok .next ⟨a.ρ,a.σ.set i m'⟩ p [(.f d,.f b),(.o a.σ[i]?,.o<|some m)]
  |.k=>uN (d a) p
  |z=>.ask (.s d a) a (z::p)
theorem Mr(d:aD->Res aS):afg d<|O6 d:=λa p=>by
 cases p with
 |nil=>trivial
 |cons x p=>
  cases x with
  |s h=>exactλq=>(congrArg W7 q.1).trans h
  |Vh h=>exactλq=>(congrArg W7 q.1).trans h
  |U i h=>exactλq=>by rw[show d=_ from congrArg acD q.1];exact h a<|congrArg To q.2.1
  |k=>exact jZ
  |_=>trivial
def aa.any(d:aD->Res aS):aa aS:=⟨d,O6 d,Mr d⟩
def KN(d:aD->Res (List ζ))(a:aD):ae8->fP (List ζ)
 |[]=>.ask (.l d a) a []
 |z::p=>match z with
  |.l (d:=b) (a:=a1) (q:=f) (a':=a') _=>.ok f a' p [(.l d a,.l b a1)]
  |.k=>uN (d a) p
  |z=>.ask (.l d a) a (z::p)
theorem HI(d:aD->Res (List ζ)):afg d<|KN d:=λa p=>by
 cases p with
 |nil=>trivial
 |cons x p=>
  cases x with
  |l h=>exactλq=>(congrArg acE q.1).trans h
  |k=>exact jZ
  |_=>trivial
def aa.XB(d:aD->Res (List ζ)):aa<|List ζ:=⟨d,KN d,HI d⟩
noncomputable def KU(con:cn)(ps:List ζ)(a:aD):ae8->fP ζ
 |[]=>.ask (.c<|con ps a.σ) a []
 |z::p=>match z with
  |.c (con:=c) (ps:=d) (σ:=b) (q:=q) (σ':=σ) _=>.ok q ⟨a.ρ,σ⟩ p [(.c<|con ps a.σ,.c<|c d b)]
  |.e (con:=c) (ps:=d) (σ:=b) (k:=k) (σ':=σ) _=>.err k ⟨a.ρ,σ⟩ p [(.c<|con ps a.σ,.c<|c d b)]
  |z=>.ask (.c<|con ps a.σ) a (z::p)
theorem H4(con:cn)(ps:List ζ):afg (sI con ps)<|KU con ps:=λa p=>by
 cases p with
 |nil=>trivial
 |cons x p=>
  cases x with
  |c h=>exactλq=>by show(con ps a.σ).I6 a.ρ=_;rw[show con ps a.σ=_ from(congrArg W6 q.1).trans h];rfl
  |e h=>exactλq=>by show(con ps a.σ).I6 a.ρ=_;rw[show con ps a.σ=_ from(congrArg W6 q.1).trans h];rfl
  |_=>trivial
def aa.call(con:cn)(ps:List ζ):aa ζ:=⟨sI con ps,KU con ps,H4 con ps⟩
noncomputable def fP.drop:fP β->Res β
 |.ok b a _ _=>.ok b a
 |.err k a _ _=>.err k a
 |_=>.stuck
noncomputable def fP.l:fP β->List kF
 |.ok _ _ _ c=>c.map (·.1)
 |.err _ _ _ c=>c.map (·.1)
 |_=>[]
noncomputable def fP.r:fP β->List kF
 |.ok _ _ _ c=>c.map (·.2)
 |.err _ _ _ c=>c.map (·.2)
 |_=>[]
theorem fP.done{x:fP β}{r:Res β}(q:x.fits r)(h:x.l=x.r):x.drop=.stuck\/r=x.drop:=by
 cases x with
 |ok=>exact .inr<|q<|k2.of h
 |err=>exact .inr<|q<|k2.of h
 |no=>exact .inl rfl
 |ask=>exact .inl rfl
theorem aa.run{m:aa β}{b:β}(h:ae8)(e:((m.x a h).drop,(m.x a h).l)=(.ok b a',(m.x a h).r):=by kernel_rfl):m.d a=.ok b a':=by
 have c:(m.x a h).drop=_:=congrArg Prod.fst e;rcases fP.done (m.ok a h) (congrArg Prod.snd e)with q|q
 ·exact nomatch q.symm.trans c
 ·exact q.trans c
def mz(np eE:Nat)(hi:Option ζ)(m:aa aS)(ps:List ζ)(σ:List Ξ)(h:ae8):fP aS:=if(afq hi ps).length=np then m.x ⟨(afq hi ps).map some++List.replicate eE none,σ⟩ h else .no
variable {eE:Nat}{hi:Option ζ}
theorem b1{np:Nat}{m:aa aS}{h:ae8}{r:Res ζ}(e:(toC (mz np eE hi m ps σ h).drop,(mz np eE hi m ps σ h).l)=(r,(mz np eE hi m ps σ h).r))(n:r≠.stuck):av np hi eE m.d ps σ=r:=by
 unfold mz at e;unfold av;have b:=congrArg Prod.fst e;by_cases c:(afq hi ps).length=np
 ·rw[if_pos c]at e b⊢;rcases fP.done (m.ok ⟨(afq hi ps).map some++List.replicate eE none,σ⟩ h) (congrArg Prod.snd e)with q|q
  ·rw[q]at b;exact(n b.symm).elim
  ·rw[q];exact b
 ·rw[if_neg c]at b;exact(n b.symm).elim
theorem π{np:Nat}{m:aa aS}(b:con=av np hi eE m.d)(h:ae8)(e:(toC (mz np eE hi m ps σ h).drop,(mz np eE hi m ps σ h).l)=(.ok p ⟨[],σ'⟩,(mz np eE hi m ps σ h).r):=by kernel_rfl):con ps σ=.ok p ⟨[],σ'⟩:=b▸b1 e λq=>nomatch q
theorem il{np:Nat}{m:aa aS}(b:con=av np hi eE m.d)(h:ae8)(e:(toC (mz np eE hi m ps σ h).drop,(mz np eE hi m ps σ h).l)=(.err k ⟨[],σ'⟩,(mz np eE hi m ps σ h).r):=by kernel_rfl):con ps σ=.err k ⟨[],σ'⟩:=b▸b1 e λq=>nomatch q
variable {α β hb:Type}
noncomputable def aa.as(d:aD->Res β)(m:aa β)(h:d=m.d):aa β:=⟨d,m.x,h▸m.ok⟩
def abJ(p:ζ):Bool:=p.v false (n:=true) (b:=λx=>true) (i:=λx=>true) (s:=λx=>true)
def zq:aa β:=aa.now aK
def χ(p:ζ):aa ζ:=aa.now<|eg p
def eH(i:Nat):aa ζ:=aa.now<|hC i
abbrev ν:aa ζ:=eH 0
abbrev ae:aa ζ:=eH 1
abbrev aC:aa ζ:=eH 2
abbrev aT:aa ζ:=eH 3
abbrev bC:aa ζ:=eH 4
abbrev bZ:aa ζ:=eH 5
abbrev cF:aa ζ:=eH 6
abbrev fY:aa ζ:=eH 7
abbrev ng:aa ζ:=eH 8
abbrev da:aa ζ:=χ<|.int 0
abbrev bK:aa ζ:=χ<|.int 1
def af(op:fh)(l r:aa ζ):aa ζ:=.as (mA op l.d r.d) (l.bind λp=>r.bind λq=>.now<|op p q) rfl
def tG(op:fh)(l r:aa ζ):aa ζ:=.as (mA op l.d r.d) (l.bind λp=>r.bind λq=>.leaf<|op p q) rfl
def ag(op:fh)(l r:aa ζ):aa ζ:=.as (mA op l.d r.d) (l.bind λp=>r.bind λq=>.try (abJ p)<|op p q) rfl
def Ve(l r:aa ζ):aa ζ:=.as (CK l.d r.d) (l.bind λp=>(aa.now λa=>Res.of<|(k9 p).bind λb=>some (b,a)).bind λb=>.Pf b r<|.now λa=>.ok (.bool false) a) rfl
def YZ(l r:aa ζ):aa ζ:=.as (Ik l.d r.d) (l.bind λp=>(aa.now λa=>Res.of<|(k9 p).bind λb=>some (b,a)).bind λb=>.Pf b (.now λa=>.ok (.bool true) a) r) rfl
def bF(t:aa Bool)(x y:aa β):aa β:=.as (EZ t.d x.d y.d) (t.bind λb=>.Pf b x y) rfl
def cM(l r:aa Bool):aa Bool:=.as (CJ l.d r.d) (l.bind λb=>.Pf b r<|.now λa=>.ok false a) rfl
def fa(l r:aa Bool):aa Bool:=.as (Ij l.d r.d) (l.bind λb=>.Pf b (.now λa=>.ok true a) r) rfl
def iV(l:aa Bool):aa Bool:=.as (CS l.d) (l.bind λb=>.now λa=>.ok (!b) a) rfl
def qK:aa Bool:=.now XR
def zp:aa Bool:=.now XQ
def ao(m:aa ζ):aa Bool:=.as (qi m.d) (m.bind λp=>.now<|xX p) rfl
def ε:aa<|List ζ:=.now Ii
def γ(x:aa ζ)(xs:aa<|List ζ):aa<|List ζ:=.as (CM x.d xs.d) (x.bind λp=>xs.bind λps=>.now λa=>.ok (p::ps) a) rfl
def eG(m:aa<|List ζ):aa ζ:=.as (Io m.d) (m.bind λps=>.now λa=>if ps.length<=100 then .ok (.tup ps) a else .stuck) rfl
def cj(m:aa<|List ζ):aa<|List ζ:=.as (CO m.d) (m.bind λps=>.now λa=>if ps.length<=100 then .ok ps a else .stuck) rfl
theorem IM(r:Res<|List ζ):yg r=r.bind λxs a=>.ok (.list xs) a:=by cases r<;>rfl
theorem JO(r:Res<|List ζ):GB r=r.bind λxs a=>.ok (.ref a.σ.length) ⟨a.ρ,a.σ++[.lst xs]⟩:=by cases r<;>rfl
def c8(m:aa<|List ζ):aa ζ:=.as (Bb m.d) (m.bind λxs=>.now λa=>.ok (.list xs) a)<|funext λa=>IM<|m.d a
def mj(m:aa<|List ζ):aa ζ:=.as (Pz m.d) (m.bind λxs=>.now λa=>.ok (.ref a.σ.length) ⟨a.ρ,a.σ++[Ξ.lst xs]⟩)<|funext λa=>JO<|m.d a
def TX(x:Str)(p:ζ)(a:aD):Res ζ:=.of<|(lp a p).bind λy=>if y.1≠0 then(fl (fieldsOf y.1) x).bind λk=>(y.2[k]?).bind λo=>o.bind λq=>some (q,a)else none
def ξ(x:Str)(m:aa ζ):aa ζ:=.as (CL x m.d) (m.bind λp=>.now<|TX x p) rfl
def yP(p q:ζ)(a:aD):Res ζ:=.of<|(items a p).bind λxs=>(gd q).bind λi=>if xs.length<=sizeLine then(gT xs.length i).bind λj=>(xs[j]?).bind λx=>some (x,a)else none
def bT(m i:aa ζ):aa ζ:=.as (Py m.d i.d) (m.bind λp=>i.bind λq=>.leaf<|yP p q) rfl
def ic(p l u:ζ)(a:aD):Res ζ:=.of<|(CI a p).bind λxs=>(afr l).bind λlo=>(afr u).bind λb=>if xs.length<=sizeLine then some (.list<|fx xs lo b,a)else none
def d2(m l u:aa ζ):aa ζ:=.as (Ih m.d l.d u.d) (m.bind λp=>l.bind λx=>u.bind λy=>.leaf<|ic p x y) rfl
def DQ(p:ζ)(a:aD):Res ζ:=.of<|(view a p).bind λxs=>if xs.length<=sizeLine then some (.list xs.reverse,a)else none
def JQ(m:aa ζ):aa ζ:=.as (Im m.d) (m.bind λp=>.leaf<|DQ p) rfl
def hR(op:l0)(m:aa<|List ζ):aa ζ:=.as (xb op m.d) (m.bind λps=>.now<|op ps) rfl
def aH(op:l0)(m:aa<|List ζ):aa ζ:=.as (xb op m.d) (m.bind λps=>.leaf<|op ps) rfl
def Ω(con:cn)(m:aa<|List ζ):aa ζ:=.as (nK con m.d) (m.bind λps=>.call con ps) rfl
def UU(mt:Nat->Str->Option cn)(x:Str)(p:ζ)(a:aD):Res cn:=Res.of<|(lp a p).bind λy=>(mt y.1 x).bind λcon=>some (con,a)
def aW(mt:Nat->Str->Option cn)(x:Str)(m:aa ζ)(ds:aa<|List ζ):aa ζ:=.as (CR mt x m.d ds.d) (m.bind λp=>(aa.now<|UU mt x p).bind λcon=>ds.bind λps=>.call (λps σ=>con ([p]++ps) σ) ps) rfl
def YR(p:ζ)(a:aD):Res Nat:=Res.of<|(iM p).bind λi=>((a.σ[i]?).bind dv).bind λx=>some (i,a)
def ep(m v:aa ζ)(f:aD->Nat->List ζ->ζ->Option (ζ×aD)):aa ζ:=.as (pj m.d v.d f) (m.bind λp=>(aa.now<|YR p).bind λi=>v.bind λv=>.leaf λa=>.of<|((a.σ[i]?).bind dv).bind λxs=>f a i xs v) rfl
def θ:aa aS:=.now qh
noncomputable def SP(f:aS)(m:aa aS)(a:aD)(p:ae8):fP aS:=match f with|.next=>m.x a p|.ret q=>.ok (.ret q) a p []
theorem NW(f:aS)(m:aa aS):afg (λa=>match f with|.next=>m.d a|.ret p=>.ok (.ret p) a)<|SP f m:=λa p=>by
 cases f with
 |next=>exact m.ok a p
 |ret q=>exactλx=>rfl
def aa.seq(f:aS)(m:aa aS):aa aS:=⟨λa=>match f with|.next=>m.d a|.ret p=>.ok (.ret p) a,SP f m,NW f m⟩
def δ(x y:aa aS):aa aS:=.as (xV x.d y.d) (x.bind λf=>.seq f y) rfl
def aR(i:Nat)(m:aa ζ):aa aS:=.as (CT i m.d) (m.bind λp=>.now λa=>.ok .next ⟨a.ρ.set i<|some p,a.σ⟩) rfl
def az(m:aa ζ):aa aS:=.as (CN m.d) (m.bind λx=>.now λa=>.ok .next a) rfl
def bk(m:aa ζ):aa aS:=.as (Il m.d) (m.bind λp=>.now λa=>.ok (.ret p) a) rfl
noncomputable def Ua:bL:=λa=>.ok (.ret .none) a
def qA:aa aS:=.now Ua
def Zg(f:gx)(p:ζ)(a:aD):Res aS:=.of<|(f p a.ρ).bind λρ=>some (.next,⟨ρ,a.σ⟩)
def gq(f:gx)(m:aa ζ):aa aS:=.as (uv f m.d) (m.bind λp=>.now<|Zg f p) rfl
def HL(x:Str)(v p:ζ)(a:aD):Res aS:=.of<|(n3 a p).bind λy=>(iM p).bind λi=>(fl (fieldsOf y.1) x).bind λk=>some (.next,⟨a.ρ,a.σ.set i<|.obj y.1<|y.2.set k<|some v⟩)
def aE(x:Str)(m v:aa ζ):aa aS:=.as (gh x m.d v.d) (v.bind λv=>m.bind λp=>.now<|HL x v p) rfl
def LH(v p q:ζ)(a:aD):Res aS:=.of<|(iM p).bind λi=>((a.σ[i]?).bind dv).bind λxs=>(gd q).bind λk=>if xs.length<=sizeLine then(gT xs.length k).bind λj=>some (.next,⟨a.ρ,a.σ.set i<|.lst<|xs.set j v⟩)else none
def L1(m i v:aa ζ):aa aS:=.as (CP m.d i.d v.d) (v.bind λv=>m.bind λp=>i.bind λq=>.any<|LH v p q) rfl
def SS(v p l u:ζ)(a:aD):Res aS:=.of<|(iM p).bind λi=>((a.σ[i]?).bind dv).bind λxs=>(jM v).bind λys=>(afr l).bind λlo=>(afr u).bind λb=>if xs.length+ys.length<=sizeLine then some (.next,⟨a.ρ,a.σ.set i<|.lst<|gC xs lo b ys⟩)else none
def ml(m l u v:aa ζ):aa aS:=.as (pk m.d l.d u.d v.d) (v.bind λv=>m.bind λp=>l.bind λl=>u.bind λu=>.any<|SS v p l u) rfl
def afX(ps:List ζ)(a:aD):Res aS:=match afj ps with
 |some y=>.err y.1 a
 |none=>.stuck
def qz(m:aa<|List ζ):aa aS:=.as (xU m.d) (m.bind λps=>.now<|afX ps) rfl
noncomputable def Tf(m:aa aS)(a:aD)(p:ae8):fP aS:=match m.x a p with|.err k a' b c=>.ok (.ret<|.str k) a' b c|x=>x
theorem N6(m:aa aS):afg (xY m.d)<|Tf m:=λa p=>by
 have h:=m.ok a p
 show fP.fits (match m.x a p with|.err k a' d c=>_|x=>x) (match m.d a with|.err k a'=>_|x=>x)
 cases e:m.x a p with
 |no=>trivial
 |ask=>trivial
 |ok b a' d c=>rw[e]at h;exactλq=>by rw[h q]
 |err k a' d c=>rw[e]at h;exactλq=>by rw[h q]
def Vf(m:aa aS):aa aS:=⟨xY m.d,Tf m,N6 m⟩
def e9(f:gx)(m:aa aS)(it:aI):aa aS:=.any<|lh f m.d it
def j3(t:aa Bool)(m:aa aS):aa aS:=.any<|c4 t.d m.d
def xi(b:Bool)(i:Nat)(dl:aI):aa aS:=.any<|nL b i dl
def wX(d:aI):aa<|List ζ:=.XB d
noncomputable def H6(ρ:List<|Option ζ):Option Nat->Option ζ
 |none=>none
 |some i=>(ρ[i]?).bind id
def ou(cs:List<|Option Nat)(f:gx)(d:Den)(iC:aI):aI:=λa=>(iC a).bind λxs a1=>if xs.length<=sizeLine then(ee<|ec f d xs ⟨cs.map<|H6 a1.ρ,a1.σ⟩).bind λps a2=>.ok ps ⟨a1.ρ,a2.σ⟩else .stuck
def bg(k:Nat):Nat->Str->Option cn:=(afl<|afh<|jm.drop k).mt
def I9:cn:=((afl<|afh<|jm.drop 7).fn "insert").getD λx x=>.stuck
def p0:aa ζ:=(hR JD<|γ ν ε)
def p1:aa ζ:=(bT (c8<|cj<|γ (χ<|.int 97)<|γ (χ<|.int 98)<|γ (χ<|.int 10)<|γ (χ<|.int 32)<|γ (χ<|.int 98)<|γ (χ<|.int 9) ε)<|Ω (Λ "_law_draw")<|γ ae<|γ (χ<|.int 6) ε)
def p2:aa aS:=(δ (aR 9<|eG<|γ (Ω (Λ "_law_draw")<|γ ae<|γ (χ<|.int 6) ε)<|γ (Ω (Λ "_law_draw")<|γ ae<|γ (χ<|.int 40) ε)<|γ (Ω (Λ "_law_draw")<|γ ae<|γ (χ<|.int 40) ε)<|γ (Ω (Λ "_law_draw")<|γ ae<|γ (χ<|.int 4) ε) ε)<|δ (az<|aW (bg 1) "boundary" (ξ "list"<|ξ "undo" bC) ε)<|δ (aR 10<|Ω (Λ "_law_done")<|γ bC<|γ (eH 9)<|γ fY ε)<|δ (bF (fa (ao<|tG iy (eH 10)<|Ω (Λ "_law_done")<|γ bZ<|γ (eH 9)<|γ ng ε)<|fa (ao<|ag iy (Ω (Λ "_law_text")<|γ bZ ε)<|Ω (Λ "_law_text")<|γ bC ε) zp) (δ (bk<|χ<|.bool false) θ) θ)<|δ (bF (fa (ao<|ag iy (Ω (Λ "_law_text")<|γ bC ε)<|bT cF<|χ<|.int<|-1)<|fa (iV<|ao<|aW (bg 1) "is_at_boundary" (ξ "list"<|ξ "undo" bC) ε) zp) (δ (az<|ep cF (Ω (Λ "_law_text")<|γ bC ε) eN) θ) θ) θ)
def wc:aI:=(gj (γ (ag (aeX .Add) bK<|Ω (Λ "_law_draw")<|γ ae<|γ (χ<|.int 6) ε) ε).d)
def wd:aI:=(ou [none] (bh 0) p0.d<|eh (d2 ν (χ .none)<|χ<|.int 60).d)
def we:aI:=(ou [none,some 1] (bh 0) p1.d<|gj (γ (ag (aeX .Add) (χ<|.int 3)<|Ω (Λ "_law_draw")<|γ ae<|γ (χ<|.int 14) ε) ε).d)
def SO:aa aS:=(δ (aR 1<|mj<|wX wd)<|δ (xi false 3 we)<|δ (gq (gc [4,5,6,7,8])<|eG<|γ (Ω (Λ "_law_buffer")<|γ aT ε)<|γ (Ω (Λ "_law_buffer")<|γ aT ε)<|γ (mj<|cj<|γ aT ε)<|γ (mj<|cj<|γ (c8<|cj<|γ (c8<|cj<|γ (χ<|.int 120) ε) ε) ε)<|γ (mj<|cj<|γ (c8<|cj<|γ (c8<|cj<|γ (χ<|.int 120) ε) ε) ε) ε)<|δ (e9 (bh 2) p2 wc)<|δ (aR 11<|JQ<|d2 cF (χ .none)<|χ<|.int<|-1)<|δ (bF (iV<|ao<|Ω (Λ "_law_passed")<|γ bC<|γ (eH 11) ε) (δ (bk<|χ<|.bool false) θ) θ)<|δ (bF (iV<|ao<|Ω (Λ "_law_passed")<|γ bC<|γ (d2 cF bK<|χ .none) ε) (δ (bk<|χ<|.bool false) θ) θ)<|δ (bk<|Ve (Ω (Λ "_law_passed")<|γ bC<|γ (eH 11) ε)<|ag oEq (Ω (Λ "_law_text")<|γ bC ε) aT) θ)
theorem TZ:(Λ "law")=av 1 none 11 SO.d:=by kernel_rfl
def hG:aa aS:=(δ (aR 3<|Ω (Λ "undo_group")<|γ ν<|γ aC<|γ aT ε)<|δ (az<|aW (bg 2) "boundary" (ξ "list"<|ξ "undo" ν) ε)<|δ (bF (ao<|ag iy (Ω (Λ "_law_text")<|γ ν ε) bC) (δ (bk<|χ<|.bool false) θ) θ) θ)
def ks:aI:=(eh ae.d)
def ku:aI:=(kJ (γ (ξ "rows"<|ξ "list"<|ξ "undo" ν) ε).d)
def u1:aa aS:=(δ (az<|aW (bg 2) "boundary" (ξ "list"<|ξ "undo" ν) ε)<|δ (aR 2<|c8<|wX ku)<|δ (aR 3<|aH a9<|γ aC ε)<|δ (e9 (bh 4) hG ks)<|δ (bk<|χ<|.bool true) θ)
theorem wA:(Λ "_law_passed")=c3 r0 (av 2 none 3 u1.d):=by kernel_rfl
def mm:aI:=(kJ (γ (bT aC da) ε).d)
def pX:aa aS:=(δ (gq (gc [3,4,5,6]) ae)<|δ (aR 7<|ag (aeX .Add) (aW (bg 3) "size" ν ε) bK)<|δ (gq (tY [4,5])<|eG<|γ (ag (aeX .Add) bK<|tG (aeX .Mod) bC fY)<|γ (ag (aeX .Add) bK<|tG (aeX .Mod) bZ<|ag (aeX .Add) fY bK) ε)<|δ (Vf<|δ (bF (ao<|ag oEq aT da) (δ (aR 8<|bT (c8<|cj<|γ (c8<|cj<|γ (χ<|.int 98) ε)<|γ (c8<|cj<|γ (χ<|.int 97)<|γ (χ<|.int 97) ε)<|γ (c8<|cj ε)<|γ (c8<|cj<|γ (χ<|.int 98)<|γ (χ<|.int 10) ε) ε)<|bF (ao<|af oLt fY<|χ<|.int 40) cF<|χ<|.int 2)<|δ (bk<|Ω (Λ "replaced_all")<|γ ν<|γ (Ω (fW 8)<|γ (d2 (c8<|cj<|γ (χ<|.int 97)<|γ (χ<|.int 98) ε) (χ .none)<|ag (aeX .Add) bK<|tG (aeX .Mod) bZ<|χ<|.int 2)<|γ (χ<|.bool false) ε)<|γ (Ω (fW 1)<|γ ng ε)<|γ bC<|γ fY ε) θ) θ)<|δ (bF (ao<|ag oEq aT bK) (δ (L1 aC da<|Ω (Λ "kill_rectangle")<|γ ν<|γ bC<|γ bZ<|γ (χ<|.int 4) ε)<|δ (bk<|c8<|wX mm) θ) θ)<|δ (bF (ao<|ag oEq aT<|χ<|.int 2) (δ (az<|aW (bg 3) "goto" ν<|γ bC ε)<|δ (bk<|Ω (Λ "yank_rectangle")<|γ ν<|γ (bT aC da)<|γ (χ<|.int 4) ε) θ) θ)<|δ (bF (ao<|ag oEq aT<|χ<|.int 3) (δ (bk<|Ω (Λ "string_rectangle")<|γ ν<|γ bC<|γ bZ<|γ (d2 (c8<|cj<|γ (χ<|.int 88)<|γ (χ<|.int 89) ε) (χ .none) cF)<|γ (χ<|.int 4) ε) θ) θ)<|δ (bk<|bF (ao<|ag oEq aT<|χ<|.int 4) (Ω (Λ "sort_rows")<|γ ν<|γ bC<|γ bZ<|γ (af hr cF bK)<|γ (χ<|.bool false) ε)<|Ω (Λ "open_rectangle")<|γ ν<|γ bC<|γ bZ<|γ (χ<|.int 4) ε) θ) θ)
theorem q5:(Λ "_law_done")=c3 xd (av 3 none 6 pX.d):=by kernel_rfl
def u0:aa aS:=(δ (aR 1<|Ω (fW 7)<|γ bK<|γ (χ<|.str 15) ε)<|δ (az<|Ω (Λ "insert")<|γ ae<|γ ν ε)<|δ (aE "undo" ae<|Ω (fW 11) ε)<|δ (bk ae) θ)
theorem oo:(Λ "_law_buffer")=av 1 none 1 u0.d:=by kernel_rfl
def zx:aa aS:=(δ (bk<|aW (bg 5) "codes" ν<|γ bK<|γ (ag (aeX .Add) (aW (bg 5) "size" ν ε) bK) ε) θ)
theorem z6:(Λ "_law_text")=c3 r0 (av 1 none 0 zx.d):=by kernel_rfl
def zw:aa aS:=(δ (bk<|bF (ao<|ag iy ν<|c8<|cj ε) (tG (aeX .Mod) (ep ν da C3) ae) da) θ)
theorem q6:(Λ "_law_draw")=av 2 none 0 zw.d:=by kernel_rfl
def pY:aa aS:=(δ (az<|Ω (Λ "put_in_editing")<|γ ν<|γ (ξ "point" ν)<|γ ae<|γ aC<|γ (χ<|.bool true) ε) θ)
theorem HU:(Λ "insert")=c3 Rw (av 3 (some<|.bool false) 0 pY.d):=by kernel_rfl
def lL:aa Bool:=(cM (ao<|af hr aC da)<|cM (ao<|ag iy (bT ae<|af (aeX .Sub) aC bK)<|χ<|.tup [(.str 8)]) qK)
def lK:aa aS:=(δ (aR 2<|Ω (Λ "undo_row")<|γ ν<|γ ae<|γ aC ε) θ)
def w1:aa aS:=(δ (aR 2<|Ω (Λ "above_boundaries")<|γ ae<|γ aC ε)<|δ (j3 lL lK)<|δ (bk aC) θ)
theorem xH:(Λ "undo_group")=av 3 none 0 w1.d:=by kernel_rfl
def hV:aa Bool:=(cM (ao<|af hr ae da)<|cM (ao<|ag oEq (bT ν<|af (aeX .Sub) ae bK)<|χ<|.tup [(.str 8)]) qK)
def hU:aa aS:=(δ (aR 1<|af (aeX .Sub) ae bK) θ)
def oQ:aa aS:=(δ (j3 hV hU)<|δ (bk ae) θ)
theorem o8:(Λ "above_boundaries")=av 2 none 0 oQ.d:=by kernel_rfl
def AL:aa aS:=(δ (aR 3<|bT ae<|af (aeX .Sub) aC bK)<|δ (aR 2<|af (aeX .Sub) aC bK)<|δ (bF (ao<|ag oEq (bT aT da)<|χ<|.str 9) (δ (az<|Ω (Λ "undo_insert")<|γ ν<|γ aT ε) θ)<|δ (bF (ao<|ag oEq (bT aT da)<|χ<|.str 10) (δ (aR 4<|Ω (Λ "markers_ahead")<|γ ae<|γ aC ε)<|δ (az<|Ω (Λ "undo_delete")<|γ ν<|γ aT<|γ bC ε)<|δ (aR 2<|af (aeX .Sub) aC<|aH a9<|γ bC ε) θ)<|δ (bF (ao<|ag oEq (bT aT da)<|χ<|.str 12) (δ (az<|aW (bg 15) "goto" ν<|γ (bT aT bK) ε) θ)<|δ (bF (ao<|ag oEq (bT aT da)<|χ<|.str 13) (δ (az<|Ω (Λ "need_visible")<|γ ν<|γ (bT aT bK)<|γ (bT aT<|χ<|.int 2) ε)<|δ (az zq) θ)<|δ (bF (cM (ao<|ag oEq (bT aT da)<|χ<|.str 14)<|cM (ao<|ag oEq (bT aT bK)<|ξ "saved_ticks" ν) qK) (δ (az<|aW (bg 15) "set_modified" ν<|γ (χ<|.bool false) ε)<|δ (bF (ao<|af (j1 false) (ξ "undo" ν)<|χ .none) (δ (az<|aW (bg 15) "renew_unmodified" (ξ "list"<|ξ "undo" ν)<|γ (bT aT bK)<|γ (ξ "saved_ticks" ν) ε) θ) θ) θ) θ) θ) θ) θ) θ)<|δ (bk aC) θ)
theorem sF:(Λ "undo_row")=av 3 none 2 AL.d:=by kernel_rfl
def qW:aa aS:=(δ (bF (cM (ao<|af oC (ξ "number" bZ)<|ξ "rows"<|ξ "markers" ν)<|cM (ao<|ag oEq (ξ "position" bZ)<|bT ae bK) qK) (δ (az<|ep aT (eG<|γ bZ<|γ cF ε) eN) θ) θ) θ)
def qU:aI:=(eh aC.d)
def qX:aa aS:=(δ (aE "position" bZ<|hR uO<|γ (hR r3<|γ (af (aeX .Sub) (ξ "position" bZ) cF)<|γ bK ε)<|γ (ag (aeX .Add) (aW (bg 16) "size" ν ε) bK) ε) θ)
def qV:aI:=(eh aT.d)
def va:aa aS:=(δ (az<|Ω (Λ "need_visible")<|γ ν<|γ (bT ae bK)<|γ (bT ae bK) ε)<|δ (aR 3<|c8<|cj ε)<|δ (e9 (gc [4,5,6]) qW qU)<|δ (az<|aW (bg 16) "goto" ν<|γ (bT ae bK) ε)<|δ (az<|Ω (Λ "insert_piece")<|γ ν<|γ (bT ae<|χ<|.int 2) ε)<|δ (bF (iV<|ao<|bT ae<|χ<|.int 3) (δ (az<|aW (bg 16) "goto" ν<|γ (bT ae bK) ε) θ) θ)<|δ (e9 (gc [5,6]) qX qV) θ)
theorem ot:(Λ "undo_delete")=av 3 none 4 va.d:=by kernel_rfl
def pZ:aI:=aK
def tP:aa aS:=(δ (aR 2<|ξ "point" ν)<|δ (az<|Ω I9<|γ ν<|γ (ξ "codes" ae) ε)<|δ (bF (cM (ao<|af (j1 false) (ξ "props" ν)<|χ .none)<|cM (ao<|af hr (aH a9<|γ (ξ "codes" ae) ε) da) qK) (δ (aR 3<|c8<|cj<|γ (eG<|γ (af (aeX .Sub) aC bK)<|γ (ag (aeX .Add) (af (aeX .Sub) aC bK)<|aH a9<|γ (ξ "codes" ae) ε)<|γ (c8<|cj ε) ε) ε)<|δ (aR 3<|ag (aeX .Add) aT<|c8<|wX pZ)<|δ (az<|aW (bg 17) "put_rows" (ξ "props" ν)<|γ aT ε) θ) θ) θ)
theorem ue:(Λ "insert_piece")=av 2 none 2 tP.d:=by kernel_rfl
def vb:aa aS:=(δ (az<|Ω (Λ "need_visible")<|γ ν<|γ (bT ae bK)<|γ (bT ae<|χ<|.int 2) ε)<|δ (az<|aW (bg 18) "goto" ν<|γ (bT ae bK) ε)<|δ (az<|Ω (Λ "delete")<|γ ν<|γ (bT ae bK)<|γ (bT ae<|χ<|.int 2) ε) θ)
theorem wI:(Λ "undo_insert")=av 2 none 0 vb.d:=by kernel_rfl
def jb:aa Bool:=(cM (ao<|af hr ae da)<|cM (ao<|ag oEq (bT (bT ν<|af (aeX .Sub) ae bK) da)<|χ<|.str 11) qK)
def ja:aa aS:=(δ (aR 1<|af (aeX .Sub) ae bK)<|δ (az<|ep aC (bT ν ae) eN) θ)
def r8:aa aS:=(δ (aR 2<|c8<|cj ε)<|δ (j3 jb ja)<|δ (bk aC) θ)
theorem sA:(Λ "markers_ahead")=av 2 none 1 r8.d:=by kernel_rfl
def tQ:aa aS:=(δ (bF (fa (ao<|af oLt ae<|ξ "begv" ν)<|fa (ao<|af hr aC<|ξ "zv" ν) zp) (δ (qz<|γ (χ<|.str 1)<|γ (c8<|cj<|γ (χ<|.str 16) ε) ε) θ) θ) θ)
theorem uf:(Λ "need_visible")=av 3 none 0 tQ.d:=by kernel_rfl
def zE:aa aS:=(δ (gq (gc [5,6])<|Ω (Λ "reached")<|γ ν<|γ ae<|γ aC ε)<|δ (aR 7<|aW (bg 21) "codes" ν<|γ bZ<|γ cF ε)<|δ (az<|Ω (Λ "put_ordered")<|γ ν<|γ bZ<|γ cF<|γ (Ω (Λ "put_in_order")<|γ fY<|γ (Ω (Λ "row_records")<|γ fY<|γ bC ε)<|γ aT ε) ε) θ)
theorem mx:(Λ "sort_rows")=av 5 none 3 zE.d:=by kernel_rfl
def u5:aa aS:=(δ (bF (ao<|ag iy (aW (bg 22) "codes" ν<|γ ae<|γ aC ε) aT) (δ (az<|Ω (Λ "replace")<|γ ν<|γ ae<|γ aC<|γ aT ε) θ) θ) θ)
theorem oq:(Λ "put_ordered")=av 4 none 0 u5.d:=by kernel_rfl
def kB:aa aS:=(δ (aR 5<|d2 ν aT bC)<|δ (az<|ep aC (eG<|γ aT<|γ bC<|γ (bF (ao ae) zq bZ) ε) eN) θ)
def kA:aI:=(eh (Ω (Λ "rows_between")<|γ ν ε).d)
def u7:aa aS:=(δ (aR 2<|mj<|cj ε)<|δ (e9 (gc [3,4]) kB kA)<|δ (bk aC) θ)
theorem wG:(Λ "row_records")=c3 dU (av 2 none 4 u7.d):=by kernel_rfl
def j5:aa aS:=(δ (gq (gc [7,8,9])<|bT ae cF)<|δ (az<|ep bC (d2 ν bZ fY) rR)<|δ (az<|ep bC (d2 ν (bT (bT aT cF) da)<|bT (bT aT cF) bK) rR)<|δ (aR 5 ng) θ)
def j4:aI:=(gj (γ (aH a9<|γ ae ε) ε).d)
def tR:aa aS:=(δ (aR 3<|Ω (Λ "ordered")<|γ ae<|γ aC ε)<|δ (aR 4<|mj<|cj ε)<|δ (aR 5 da)<|δ (e9 (bh 6) j5 j4)<|δ (bk<|ag (aeX .Add) bC<|d2 ν bZ<|χ .none) θ)
theorem ug:(Λ "put_in_order")=c3 dU (av 3 none 7 tR.d):=by kernel_rfl
def oE:aI:=(xW nY ν.d ae.d)
def DV:aa aS:=(δ (bk<|c8<|wX oE) θ)
theorem EJ:(Λ "ordered")=av 2 none 0 DV.d:=by kernel_rfl
def j7:aa aS:=(δ (bF (ao<|ag oEq (bT ν aT)<|χ<|.int 10) (δ (az<|ep ae (eG<|γ aC<|γ aT ε) eN)<|δ (aR 2<|ag (aeX .Add) aT bK) θ) θ) θ)
def j6:aI:=(gj (γ (aH a9<|γ ν ε) ε).d)
def tT:aa aS:=(δ (aR 1<|mj<|cj ε)<|δ (aR 2 da)<|δ (e9 (bh 3) j7 j6)<|δ (bF (ao<|af oLt aC<|aH a9<|γ ν ε) (δ (az<|ep ae (eG<|γ aC<|γ (aH a9<|γ ν ε) ε) eN) θ) θ)<|δ (bk ae) θ)
theorem mR:(Λ "rows_between")=c3 dU (av 1 none 3 tT.d):=by kernel_rfl
def gs:aa aS:=(δ (bF (ao<|af oLt cF<|ξ "zv" ν) (δ (aR 6<|Ω (Λ "line_end")<|γ ν<|γ (ag (aeX .Add) cF bK) ε) θ) θ) θ)
def gr:aI:=(gj (γ (af (aeX .Sub) (aH a9<|γ ae ε) bK) ε).d)
def eU:aa ζ:=(Ω (Λ "put_in_rectcols")<|γ (bF (ao<|af oLt ν aC) (bT aT ν)<|c8<|cj ε)<|γ ae<|γ (bT bC ν)<|γ bZ ε)
def iZ:aI:=(ou [none,some 4,some 9,some 8,some 1,some 2] (bh 0) eU.d<|gj (γ (aH a9<|γ ae ε) ε).d)
def qY:aa aS:=(δ (bF (ao<|ag oEq (aH a9<|γ ae ε) da) (δ qA θ) θ)<|δ (aR 3<|ξ "point" ν)<|δ (aR 4<|Ω (Λ "column_of")<|γ ν<|γ aT<|γ aC ε)<|δ (aR 5<|Ω (Λ "line_start")<|γ ν<|γ aT ε)<|δ (aR 6<|Ω (Λ "line_end")<|γ ν<|γ aT ε)<|δ (e9 (bh 7) gs gr)<|δ (aR 8<|Ω (Λ "rows_in")<|γ (aW (bg 27) "codes" ν<|γ bZ<|γ cF ε) ε)<|δ (aR 9<|aH a9<|γ ng ε)<|δ (xi false 10 iZ)<|δ (bF (ao<|af oLt (eH 9)<|aH a9<|γ ae ε) (δ (az<|Ω (Λ "insert_at")<|γ ν<|γ cF<|γ (ag (aeX .Add) (c8<|cj<|γ (χ<|.int 10) ε)<|Ω (Λ "text_of")<|γ (d2 (eH 10) (eH 9)<|χ .none) ε) ε) θ) θ)<|δ (az<|Ω (Λ "put_rows")<|γ ν<|γ (Ω (fW 12)<|γ bZ<|γ cF<|γ ng<|γ bC<|γ bC ε)<|γ (d2 (eH 10) (χ .none)<|eH 9)<|γ bC<|γ aC ε)<|δ (aR 11<|ag (aeX .Add) (Ω (Λ "text_of")<|γ (d2 (eH 10) (χ .none)<|af (aeX .Sub) (aH a9<|γ (eH 10) ε) bK) ε)<|bF (ao<|af hr (aH a9<|γ (eH 10) ε) bK) (c8<|cj<|γ (χ<|.int 10) ε)<|c8<|cj ε)<|δ (aE "point" ν<|ag (aeX .Add) (ag (aeX .Add) bZ<|aH a9<|γ (eH 11) ε)<|Ω (Λ "behind_last")<|γ (eH 10)<|γ bC<|γ ae<|γ aC ε) θ)
theorem gg:(Λ "yank_rectangle")=av 3 none 9 qY.d:=by kernel_rfl
def kx:aa Bool:=(cM (ao<|af oLt cF<|aH a9<|γ bC ε)<|cM (ao<|af oLt fY<|ag (aeX .Add) ae bZ) qK)
def kv:aa aS:=(δ (aR 6<|ag (aeX .Add) cF bK)<|δ (aR 7<|Ω (Λ "row_columns")<|γ (d2 bC (χ .none) cF)<|γ aT ε) θ)
def u2:aa aS:=(δ (aR 4<|bT ν<|af (aeX .Sub) (aH a9<|γ ν ε) bK)<|δ (aR 5<|Ω (Λ "row_columns_from")<|γ (bT aC<|af (aeX .Sub) (aH a9<|γ aC ε) bK)<|γ ae<|γ aT ε)<|δ (aR 6 da)<|δ (aR 7 da)<|δ (j3 kx kv)<|δ (bk cF) θ)
theorem wB:(Λ "behind_last")=av 4 none 4 u2.d:=by kernel_rfl
def oS:aa aS:=(δ (bk<|af (aeX .Sub) (Ω (Λ "row_columns")<|γ (ag (aeX .Add) (ag (aeX .Mult) (c8<|cj<|γ (χ<|.int 32) ε) ae) ν)<|γ aC ε) ae) θ)
theorem pd:(Λ "row_columns_from")=av 3 none 0 oS.d:=by kernel_rfl
def hY:aa ζ:=(Ω (Λ "replaced")<|γ ν<|γ (ξ "first" aC)<|γ (ξ "last" aC)<|γ ae<|γ aT ε)
def hZ:aI:=(ou [none,some 3,some 5,some 4] (bh 0) hY.d<|eh (ξ "rows" bZ).d)
def oT:aa aS:=(δ (aR 5<|Ω (Λ "span_of")<|γ ν<|γ ae<|γ aC<|γ bC ε)<|δ (az<|Ω (Λ "put_rows")<|γ ν<|γ bZ<|γ (c8<|wX hZ)<|γ (ξ "last" bZ)<|γ bC ε) θ)
theorem jP:(Λ "string_rectangle")=av 5 none 1 oT.d:=by kernel_rfl
def iX:aa ζ:=(Ω (Λ "opened_up")<|γ ν<|γ (ξ "first" ae)<|γ (ξ "last" ae)<|γ aC ε)
def iY:aI:=(ou [none,some 4,some 3] (bh 0) iX.d<|eh (ξ "rows" bC).d)
def qP:aa aS:=(δ (aR 4<|Ω (Λ "span_of")<|γ ν<|γ ae<|γ aC<|γ aT ε)<|δ (az<|Ω (Λ "put_rows")<|γ ν<|γ bC<|γ (c8<|wX iY)<|γ (ξ "first" bC)<|γ aT ε) θ)
theorem lb:(Λ "open_rectangle")=av 4 none 1 qP.d:=by kernel_rfl
def qO:aa aS:=(δ (aR 4<|Ω (Λ "extract_rectangle")<|γ ν<|γ ae<|γ aC<|γ aT ε)<|δ (az<|Ω (Λ "delete_rectangle")<|γ ν<|γ ae<|γ aC<|γ aT ε)<|δ (bk bC) θ)
theorem la:(Λ "kill_rectangle")=av 4 none 1 qO.d:=by kernel_rfl
def hW:aa ζ:=(Ω (Λ "erased")<|γ ν<|γ (ξ "first" ae)<|γ (ξ "last" ae)<|γ aC ε)
def hX:aI:=(ou [none,some 4,some 3] (bh 0) hW.d<|eh (ξ "rows" bC).d)
def oR:aa aS:=(δ (aR 4<|Ω (Λ "span_of")<|γ ν<|γ ae<|γ aC<|γ aT ε)<|δ (az<|Ω (Λ "put_rows")<|γ ν<|γ bC<|γ (c8<|wX hX)<|γ (ξ "last" bC)<|γ aT ε) θ)
theorem pa:(Λ "delete_rectangle")=av 4 none 1 oR.d:=by kernel_rfl
def ht:aa ζ:=(Ω (Λ "extracted")<|γ ν<|γ (ξ "first" ae)<|γ (ξ "last" ae)<|γ aC ε)
def hu:aI:=(ou [none,some 4,some 3] (bh 0) ht.d<|eh (ξ "rows" bC).d)
def n9:aa aS:=(δ (aR 4<|Ω (Λ "span_of")<|γ ν<|γ ae<|γ aC<|γ aT ε)<|δ (bk<|c8<|wX hu) θ)
theorem i6:(Λ "extract_rectangle")=av 4 none 1 n9.d:=by kernel_rfl
def nq:aa aS:=(δ (aR 7<|bT (ξ "rows" ae) cF)<|δ (aR 8<|af (aeX .Sub) bZ<|aH a9<|γ fY ε)<|δ (bF (ao<|ag iy (bT aC cF) fY) (δ (aR 9<|aH a9<|γ (bT (Ω (Λ "cut_at")<|γ fY<|γ (ξ "first" ae)<|γ bC ε) da) ε)<|δ (az<|Ω (Λ "put_row")<|γ ν<|γ ng<|γ fY<|γ (bT aC cF)<|γ (eH 9)<|γ (aH a9<|γ (bT (Ω (Λ "cut_at")<|γ fY<|γ aT<|γ bC ε) bK) ε) ε) θ) θ)<|δ (aR 5<|af (aeX .Sub) ng bK) θ)
def nk:aI:=(gj (γ (af (aeX .Sub) (aH a9<|γ aC ε) bK)<|γ (χ<|.int<|-1)<|γ (χ<|.int<|-1) ε).d)
def AI:aa aS:=(δ (aR 5<|ξ "high" ae)<|δ (e9 (bh 6) nq nk) θ)
theorem Cv:(Λ "put_rows")=av 5 none 5 AI.d:=by kernel_rfl
def DW:aa aS:=(δ (aR 6<|Ω (Λ "common_many")<|γ aC<|γ aT<|γ bC ε)<|δ (aR 7<|Ω (Λ "common_many")<|γ (JQ<|d2 aC cF<|χ .none)<|γ (JQ<|d2 aT cF<|χ .none)<|γ bZ ε)<|δ (az<|Ω (Λ "replace")<|γ ν<|γ (ag (aeX .Add) ae cF)<|γ (af (aeX .Sub) (ag (aeX .Add) ae<|aH a9<|γ aC ε) fY)<|γ (d2 aT cF<|af (aeX .Sub) (aH a9<|γ aT ε) fY) ε) θ)
theorem EK:(Λ "put_row")=av 6 none 2 DW.d:=by kernel_rfl
def kz:aa Bool:=(cM (ao<|af oLt aT<|hR uO<|γ aC<|γ (aH a9<|γ ν ε)<|γ (aH a9<|γ ae ε) ε)<|cM (ao<|ag oEq (bT ν aT)<|bT ae aT) qK)
def ky:aa aS:=(δ (aR 3<|ag (aeX .Add) aT bK) θ)
def u3:aa aS:=(δ (aR 3 da)<|δ (j3 kz ky)<|δ (bk aT) θ)
theorem wC:(Λ "common_many")=av 3 none 1 u3.d:=by kernel_rfl
def D0:aa aS:=(δ (gq (gc [4,5])<|Ω (Λ "reached")<|γ ν<|γ ae<|γ aC ε)<|δ (gq (tY [6,7])<|eG<|γ (Ω (Λ "line_start")<|γ ν<|γ bC ε)<|γ (Ω (Λ "line_end")<|γ ν<|γ bZ ε) ε)<|δ (aR 8<|aH qt<|γ (c8<|cj<|γ (Ω (Λ "column_of")<|γ ν<|γ bC<|γ aT ε)<|γ (Ω (Λ "column_of")<|γ ν<|γ bZ<|γ aT ε) ε) ε)<|δ (bk<|Ω (fW 12)<|γ cF<|γ fY<|γ (Ω (Λ "rows_in")<|γ (aW (bg 38) "codes" ν<|γ cF<|γ fY ε) ε)<|γ (bT ng da)<|γ (bT ng bK) ε) θ)
theorem vu:(Λ "span_of")=av 4 none 5 D0.d:=by kernel_rfl
def zz:aa aS:=(δ (aR 3<|Ω (Λ "line_start")<|γ ν<|γ ae ε)<|δ (bk<|Ω (Λ "column_at")<|γ (aW (bg 39) "codes" ν<|γ aT<|γ ae ε)<|γ (af (aeX .Sub) ae aT)<|γ aC ε) θ)
theorem z8:(Λ "column_of")=av 3 none 1 zz.d:=by kernel_rfl
def h6:aa aS:=(δ (bF (ao<|af hr aC da) (δ (az<|ep ae (χ<|.int 10) eN) θ) θ)<|δ (az<|ep ae (bT ν aC) rR) θ)
def oH:aI:=(gj (γ (aH a9<|γ ν ε) ε).d)
def D2:aa aS:=(δ (aR 1<|mj<|cj ε)<|δ (e9 (bh 2) h6 oH)<|δ (bk ae) θ)
theorem EM:(Λ "text_of")=c3 dU (av 1 none 2 D2.d):=by kernel_rfl
def oG:aa aS:=(δ (bF (ao<|ag oEq aC<|χ<|.int 10) (δ (az<|ep ae (mj<|cj ε) eN) θ)<|δ (az<|ep (bT ae<|af (aeX .Sub) (aH a9<|γ ae ε) bK) aC eN) θ) θ)
def oF:aI:=(eh ν.d)
def DZ:aa aS:=(δ (aR 1<|mj<|cj<|γ (mj<|cj ε) ε)<|δ (e9 (bh 2) oG oF)<|δ (bk ae) θ)
theorem EL:(Λ "rows_in")=c3 dU (av 1 none 2 DZ.d):=by kernel_rfl
def Vj:aa aS:=(δ (aE "low" ν ae)<|δ (aE "high" ν aC)<|δ (aE "rows" ν aT)<|δ (aE "first" ν bC)<|δ (aE "last" ν bZ) θ)
theorem YC:(fW 12)=c3 dU (gW 12<|av 6 none 0 Vj.d):=by kernel_rfl
def p3:aa aS:=(δ (gq (gc [4,5])<|Ω (Λ "cut_at")<|γ (Ω (Λ "padded")<|γ ν<|γ ae<|γ aT ε)<|γ ae<|γ aT ε)<|δ (bk<|ag (aeX .Add) (ag (aeX .Add) bC aC) bZ) θ)
theorem qG:(Λ "put_in_rectcols")=av 4 none 2 p3.d:=by kernel_rfl
def AJ:aa aS:=(δ (gq (gc [5,6,7])<|Ω (Λ "cut_between")<|γ (Ω (Λ "padded")<|γ ν<|γ ae<|γ bC ε)<|γ ae<|γ aC<|γ bC ε)<|δ (bk<|ag (aeX .Add) (ag (aeX .Add) bZ aT) fY) θ)
theorem Cw:(Λ "replaced")=av 5 none 3 AJ.d:=by kernel_rfl
def zD:aa aS:=(δ (bF (ao<|af oLe (Ω (Λ "row_columns")<|γ ν<|γ aT ε) ae) (δ (bk ν) θ) θ)<|δ (gq (gc [4,5])<|Ω (Λ "cut_at")<|γ ν<|γ ae<|γ aT ε)<|δ (bk<|ag (aeX .Add) (ag (aeX .Add) bC<|ag (aeX .Mult) (c8<|cj<|γ (χ<|.int 32) ε)<|af (aeX .Sub) aC ae) bZ) θ)
theorem q8:(Λ "opened_up")=av 4 none 2 zD.d:=by kernel_rfl
def GU:aa aS:=(δ (bF (ao<|af oLe (Ω (Λ "row_columns")<|γ ν<|γ aT ε) ae) (δ (bk ν) θ) θ)<|δ (gq (gc [4,5,6])<|Ω (Λ "cut_between")<|γ ν<|γ ae<|γ aC<|γ aT ε)<|δ (bk<|ag (aeX .Add) bC cF) θ)
theorem xE:(Λ "erased")=av 4 none 3 GU.d:=by kernel_rfl
def zA:aa aS:=(δ (gq (gc [4,5,6])<|Ω (Λ "cut_between")<|γ ν<|γ ae<|γ aC<|γ aT ε)<|δ (aR 7<|Ω (Λ "spread")<|γ bZ<|γ ae<|γ aT ε)<|δ (bk<|ag (aeX .Add) fY<|ag (aeX .Mult) (c8<|cj<|γ (χ<|.int 32) ε)<|af (aeX .Sub) (af (aeX .Sub) aC ae)<|aH a9<|γ fY ε) θ)
theorem z9:(Λ "extracted")=av 4 none 4 zA.d:=by kernel_rfl
def ha:aa aS:=(δ (aR 6<|Ω (Λ "column_behind")<|γ bC<|γ bZ<|γ aC ε)<|δ (bF (ao<|ag oEq bZ<|χ<|.int 9) (δ (az<|ep aT (ag (aeX .Mult) (c8<|cj<|γ (χ<|.int 32) ε)<|af (aeX .Sub) cF bC) rR) θ)<|δ (az<|ep aT bZ eN) θ)<|δ (aR 4 cF) θ)
def p4:aI:=(eh ν.d)
def GX:aa aS:=(δ (aR 3<|mj<|cj ε)<|δ (aR 4 ae)<|δ (e9 (bh 5) ha p4)<|δ (bk aT) θ)
theorem HW:(Λ "spread")=c3 dU (av 3 none 4 GX.d):=by kernel_rfl
def u4:aa aS:=(δ (gq (gc [4,5])<|Ω (Λ "cut_at")<|γ ν<|γ aC<|γ aT ε)<|δ (gq (gc [6,7])<|Ω (Λ "cut_at")<|γ bC<|γ ae<|γ aT ε)<|δ (bk<|eG<|γ cF<|γ fY<|γ bZ ε) θ)
theorem wD:(Λ "cut_between")=av 4 none 4 u4.d:=by kernel_rfl
def GR:aa aS:=(δ (aR 3<|Ω (Λ "opened")<|γ ν<|γ ae<|γ aC ε)<|δ (aR 4<|Ω (Λ "place_at")<|γ aT<|γ ae<|γ aC ε)<|δ (bk<|eG<|γ (d2 aT (χ .none) bC)<|γ (d2 aT bC<|χ .none) ε) θ)
theorem HS:(Λ "cut_at")=av 3 none 2 GR.d:=by kernel_rfl
def GW:aa aS:=(δ (bk<|ag (aeX .Add) ν<|ag (aeX .Mult) (c8<|cj<|γ (χ<|.int 32) ε)<|hR r3<|γ da<|γ (af (aeX .Sub) ae<|Ω (Λ "row_columns")<|γ ν<|γ aC ε) ε) θ)
theorem HV:(Λ "padded")=av 3 none 0 GW.d:=by kernel_rfl
def GV:aa aS:=(δ (aR 3<|Ω (Λ "place_at")<|γ ν<|γ ae<|γ aC ε)<|δ (bF (fa (ao<|ag oEq aT da)<|fa (ao<|ag iy (bT ν<|af (aeX .Sub) aT bK)<|χ<|.int 9)<|fa (ao<|af oLe (Ω (Λ "column_at")<|γ ν<|γ aT<|γ aC ε) ae) zp) (δ (bk ν) θ) θ)<|δ (aR 4<|Ω (Λ "column_at")<|γ ν<|γ (af (aeX .Sub) aT bK)<|γ aC ε)<|δ (aR 5<|Ω (Λ "column_at")<|γ ν<|γ aT<|γ aC ε)<|δ (bk<|ag (aeX .Add) (ag (aeX .Add) (d2 ν (χ .none)<|af (aeX .Sub) aT bK)<|ag (aeX .Mult) (c8<|cj<|γ (χ<|.int 32) ε)<|af (aeX .Sub) bZ bC)<|d2 ν aT<|χ .none) θ)
theorem nE:(Λ "opened")=av 3 none 3 GV.d:=by kernel_rfl
def hn:aa aS:=(δ (bF (ao<|af vW aT ae) (δ (bk bC) θ) θ)<|δ (aR 3<|Ω (Λ "column_behind")<|γ aT<|γ (bT ν bC)<|γ aC ε) θ)
def nj:aI:=(gj (γ (aH a9<|γ ν ε) ε).d)
def AH:aa aS:=(δ (aR 3 da)<|δ (e9 (bh 4) hn nj)<|δ (bk<|aH a9<|γ ν ε) θ)
theorem sD:(Λ "place_at")=av 3 none 2 AH.d:=by kernel_rfl
def u6:aa aS:=(δ (bk<|Ω (Λ "column_at")<|γ ν<|γ (aH a9<|γ ν ε)<|γ ae ε) θ)
theorem wF:(Λ "row_columns")=av 2 none 0 u6.d:=by kernel_rfl
def iW:aa aS:=(δ (aR 3<|Ω (Λ "column_behind")<|γ aT<|γ bC<|γ aC ε) θ)
def mn:aI:=(eh (d2 ν (χ .none) ae).d)
def zy:aa aS:=(δ (aR 3 da)<|δ (e9 (bh 4) iW mn)<|δ (bk aT) θ)
theorem z7:(Λ "column_at")=av 3 none 2 zy.d:=by kernel_rfl
def r7:aa aS:=(δ (bk<|bF (ao<|ag oEq ae<|χ<|.int 9) (ag (aeX .Mult) (ag (aeX .Add) (af (aeX .FloorDiv) ν aC) bK) aC)<|ag (aeX .Add) ν bK) θ)
theorem l5:(Λ "column_behind")=av 3 none 0 r7.d:=by kernel_rfl
def ni:aa Bool:=(cM (ao<|af oLt aC<|aW (bg 57) "end" ν ε)<|cM (ao<|ag iy (aW (bg 57) "code_at" ν<|γ aC ε)<|χ<|.int 10) qK)
def nh:aa aS:=(δ (aR 2<|ag (aeX .Add) aC bK) θ)
def AG:aa aS:=(δ (aR 2 ae)<|δ (j3 ni nh)<|δ (bk aC) θ)
theorem Cu:(Λ "line_end")=av 2 none 1 AG.d:=by kernel_rfl
def lJ:aa Bool:=(cM (ao<|af hr aC<|aW (bg 58) "begin" ν ε)<|cM (ao<|ag iy (aW (bg 58) "code_at" ν<|γ (af (aeX .Sub) aC bK) ε)<|χ<|.int 10) qK)
def lI:aa aS:=(δ (aR 2<|af (aeX .Sub) aC bK) θ)
def wZ:aa aS:=(δ (aR 2 ae)<|δ (j3 lJ lI)<|δ (bk aC) θ)
theorem xF:(Λ "line_start")=av 2 none 1 wZ.d:=by kernel_rfl
def tS:aa aS:=(δ (aR 5<|Ω (fW 3)<|γ ν<|γ ae<|γ aC<|γ aT<|γ bC ε)<|δ (az<|aW (bg 59) "put_all" bZ ε)<|δ (bk<|ξ "many" bZ) θ)
theorem uh:(Λ "replaced_all")=c3 r0 (av 5 none 1 tS.d):=by kernel_rfl
def Y7:aa aS:=(δ (gq (gc [6,7])<|Ω (Λ "reached")<|γ ae<|γ bC<|γ bZ ε)<|δ (aE "buffer" ν ae)<|δ (aE "finder" ν aC)<|δ (aE "maker" ν aT)<|δ (aE "bound" ν fY)<|δ (aE "state" ν<|χ<|.str 4)<|δ (aE "start" ν cF)<|δ (aE "end" ν cF)<|δ (aE "told" ν<|χ .none)<|δ (aE "near" ν<|eG<|γ (χ<|.str 6)<|γ (χ .none) ε)<|δ (aE "is_replaced" ν<|χ<|.bool false)<|δ (aE "many" ν da)<|δ (aE "steps" ν<|mj<|cj ε)<|δ (az<|aW (bg 60) "look" ν<|γ cF ε) θ)
theorem ab5:(fW 3)=gW 3 (av 6 none 2 Y7.d):=by kernel_rfl
def jw:aa Bool:=(ao<|ag oEq (ξ "state" ν)<|χ<|.str 4)
def jv:aa aS:=(δ (az<|aW (bg 61) "put_new" ν ε)<|δ (az<|aW (bg 61) "go_on" ν ε) θ)
def AA:aa aS:=(δ (j3 jw jv) θ)
theorem sy:(bw 3 "put_all")=av 1 none 0 AA.d:=by kernel_rfl
def GK:aa aS:=(δ (bF (iV<|ao<|ξ "is_replaced" ν) (δ (aR 1<|aW (bg 62) "codes" (ξ "buffer" ν)<|γ (ξ "start" ν)<|γ (ξ "end" ν) ε)<|δ (az<|ep (ξ "steps" ν) (Ω (fW 2)<|γ (ξ "start" ν)<|γ ae<|γ ae<|γ (χ<|.bool false)<|γ (ξ "told" ν)<|γ da ε) eN) θ) θ)<|δ (az<|aW (bg 62) "pass_by" ν ε) θ)
theorem HM:(bw 3 "go_on")=av 1 none 1 GK.d:=by kernel_rfl
def uU:aa ζ:=(bF (ao<|af (j1 true) ν<|χ .none) (χ .none)<|eG<|γ (ag (aeX .Add) (bT ν da) ae)<|γ (ag (aeX .Add) (bT ν bK) ae) ε)
def uV:aI:=(ou [none,some 4] (bh 0) uU.d<|eh aT.d)
def Az:aa aS:=(δ (aR 1<|bT (ξ "steps" ν)<|af (aeX .Sub) (aH a9<|γ (ξ "steps" ν) ε) bK)<|δ (gq (gc [2,3])<|ξ "near" ν)<|δ (bF (ao<|ag oEq aC<|χ<|.str 7) (δ (az<|aW (bg 63) "look" ν<|γ (ξ "end" ν) ε) θ)<|δ (bF (fa (ao<|ag oEq aC<|χ<|.str 6)<|fa (ao<|af vW (ξ "end" ν)<|ξ "bound" ν) zp) (δ (az<|aW (bg 63) "look" ν<|γ (ag (aeX .Add) (ξ "end" ν) bK) ε) θ)<|δ (aR 4<|af (aeX .Sub) (af (aeX .Sub) (ξ "end" ν)<|ξ "start" ae)<|aH a9<|γ (ξ "old" ae) ε)<|δ (xi false 5 uV)<|δ (az<|aW (bg 63) "meet" ν<|γ (bT bZ da)<|γ bZ ε) θ) θ) θ)
theorem Co:(bw 3 "pass_by")=av 1 none 5 Az.d:=by kernel_rfl
def AB:aa aS:=(δ (bF (ao<|ξ "is_replaced" ν) (δ qA θ) θ)<|δ (az<|aW (bg 64) "tell" (ξ "finder" ν)<|γ (ξ "told" ν) ε)<|δ (aR 1<|aW (bg 64) "codes" (ξ "buffer" ν)<|γ (ξ "start" ν)<|γ (ξ "end" ν) ε)<|δ (aR 2<|aW (bg 64) "made" (ξ "maker" ν)<|γ (ξ "buffer" ν)<|γ (ξ "start" ν)<|γ (ξ "end" ν) ε)<|δ (az<|Ω (Λ "replace")<|γ (ξ "buffer" ν)<|γ (ξ "start" ν)<|γ (ξ "end" ν)<|γ aC ε)<|δ (aE "bound" ν<|af (aeX .Sub) (ag (aeX .Add) (ξ "bound" ν)<|aH a9<|γ aC ε)<|aH a9<|γ ae ε)<|δ (aE "end" ν<|ag (aeX .Add) (ξ "start" ν)<|aH a9<|γ aC ε)<|δ (az<|ep (ξ "steps" ν) (Ω (fW 2)<|γ (ξ "start" ν)<|γ ae<|γ aC<|γ (χ<|.bool true)<|γ (ξ "told" ν)<|γ bK ε) eN)<|δ (aE "many" ν<|ag (aeX .Add) (ξ "many" ν) bK)<|δ (aE "is_replaced" ν<|χ<|.bool true)<|δ (aE "point" (ξ "buffer" ν)<|ξ "end" ν) θ)
theorem Cp:(bw 3 "put_new")=av 1 none 2 AB.d:=by kernel_rfl
def JT:aa aS:=(δ (aR 2<|bF (ao<|af oLt ae<|ξ "bound" ν) (aW (bg 65) "next" (ξ "finder" ν)<|γ (ξ "buffer" ν)<|γ ae<|γ (ξ "bound" ν) ε)<|χ .none)<|δ (bF (ao<|af (j1 true) aC<|χ .none) (δ (aE "state" ν<|χ<|.str 5) θ)<|δ (az<|aW (bg 65) "meet" ν<|γ aC<|γ (aW (bg 65) "told" (ξ "finder" ν) ε) ε) θ) θ)
theorem t9:(bw 3 "look")=av 2 none 1 JT.d:=by kernel_rfl
def JU:aa aS:=(δ (az<|aW (bg 66) "stand" ν<|γ (bT ae da)<|γ (bT ae bK)<|γ aC<|γ (af oLt (bT ae da)<|bT ae bK) ε)<|δ (aE "is_replaced" ν<|χ<|.bool false) θ)
theorem Mt:(bw 3 "meet")=av 3 none 0 JU.d:=by kernel_rfl
def GL:aa aS:=(δ (aE "start" ν ae)<|δ (aE "end" ν aC)<|δ (aE "told" ν aT)<|δ (aE "near" ν<|bF (ao bC) (aW (bg 67) "near" (ξ "finder" ν)<|γ (ξ "buffer" ν)<|γ aC<|γ (ξ "bound" ν) ε)<|eG<|γ (χ<|.str 6)<|γ (χ .none) ε)<|δ (aE "point" (ξ "buffer" ν) aC) θ)
theorem HN:(bw 3 "stand")=av 5 none 0 GL.d:=by kernel_rfl
def Y6:aa aS:=(δ (aE "start" ν ae)<|δ (aE "old" ν aC)<|δ (aE "new" ν aT)<|δ (aE "is_replaced" ν bC)<|δ (aE "told" ν bZ)<|δ (aE "counts" ν cF) θ)
theorem ab4:(fW 2)=c3 dU (gW 2<|av 7 none 0 Y6.d):=by kernel_rfl
def rx:aI:=(kJ (γ (ξ "codes" ν) ε).d)
def JS:aa aS:=(δ (bk<|c8<|wX rx) θ)
theorem Ms:(bw 1 "made")=av 4 none 0 JS.d:=by kernel_rfl
def Y5:aa aS:=(δ (aE "codes" ν ae) θ)
theorem ab3:(fW 1)=c3 dU (gW 1<|av 2 none 0 Y5.d):=by kernel_rfl
def J2:aa aS:=(δ θ θ)
theorem My:(bw 8 "tell")=av 2 none 0 J2.d:=by kernel_rfl
def J3:aa aS:=(δ (bk<|χ .none) θ)
theorem Mz:(bw 8 "told")=av 1 none 0 J3.d:=by kernel_rfl
def J0:aa aS:=(δ (bk<|eG<|γ (χ<|.str 7)<|γ (χ .none) ε) θ)
theorem Mx:(bw 8 "near")=av 4 none 0 J0.d:=by kernel_rfl
def hT:aa aS:=(δ (bF (ao<|aW (bg 74) "fits" ν<|γ ae<|γ bC ε) (δ (bk<|eG<|γ bC<|γ (ag (aeX .Add) bC<|aH a9<|γ (ξ "codes" ν) ε) ε) θ) θ) θ)
def rz:aI:=(gj (γ aC<|γ (ag (aeX .Add) (af (aeX .Sub) aT<|aH a9<|γ (ξ "codes" ν) ε) bK) ε).d)
def J1:aa aS:=(δ (e9 (bh 4) hT rz)<|δ (bk<|χ .none) θ)
theorem ub:(bw 8 "next")=av 4 none 1 J1.d:=by kernel_rfl
def hS:aa aS:=(δ (aR 4<|aW (bg 75) "code_at" ae<|γ (ag (aeX .Add) aC aT) ε)<|δ (bF (cM (ao<|ag iy bC<|bT (ξ "codes" ν) aT)<|cM (iV<|cM (ao<|ξ "is_folded" ν)<|cM (ao<|ag oEq zq zq) qK) qK) (δ (bk<|χ<|.bool false) θ) θ) θ)
def ry:aI:=(gj (γ (aH a9<|γ (ξ "codes" ν) ε) ε).d)
def JZ:aa aS:=(δ (e9 (bh 3) hS ry)<|δ (bk<|χ<|.bool true) θ)
theorem A0:(bw 8 "fits")=av 3 none 2 JZ.d:=by kernel_rfl
def Y8:aa aS:=(δ (aE "codes" ν ae)<|δ (aE "is_folded" ν aC) θ)
theorem ab6:(fW 8)=c3 dU (gW 8<|av 3 none 0 Y8.d):=by kernel_rfl
def DY:aa aS:=(δ (az<|Ω (Λ "need_writable")<|γ ν ε)<|δ (gq (gc [5,6])<|Ω (Λ "reached")<|γ ν<|γ ae<|γ aC ε)<|δ (bF (ao<|ag oEq bZ cF) (δ (az<|Ω (Λ "insert_at")<|γ ν<|γ bZ<|γ aT ε)<|δ (bk<|c8<|cj ε) θ) θ)<|δ (bF (ao<|ag oEq (aH a9<|γ aT ε) da) (δ (bk<|Ω (Λ "delete")<|γ ν<|γ bZ<|γ cF ε) θ) θ)<|δ (az<|Ω (Λ "need_room")<|γ ν<|γ (af (aeX .Sub) (aH a9<|γ aT ε)<|af (aeX .Sub) cF bZ) ε)<|δ (aR 7<|ξ "point" ν)<|δ (az<|Ω (Λ "tell_ahead")<|γ ν<|γ bZ<|γ cF ε)<|δ (aR 8<|Ω (Λ "text_out")<|γ ν<|γ bZ<|γ cF ε)<|δ (az<|Ω (Λ "text_in")<|γ ν<|γ bZ<|γ aT ε)<|δ (bF (ao<|af vW fY cF) (δ (aE "point" ν<|af (aeX .Sub) (ag (aeX .Add) fY<|aH a9<|γ aT ε)<|af (aeX .Sub) cF bZ) θ) θ)<|δ (az<|aW (bg 77) "replaced" (ξ "markers" ν)<|γ bZ<|γ cF<|γ (aH a9<|γ aT ε) ε)<|δ (az<|Ω (Λ "hung_in")<|γ ν<|γ cF<|γ (aH a9<|γ aT ε)<|γ (χ<|.bool true) ε)<|δ (az<|Ω (Λ "hung_out")<|γ ν<|γ bZ<|γ cF ε)<|δ (bF (ao<|af (j1 false) bC<|χ .none) (δ (az<|aW (bg 77) "put_rows" (ξ "props" ν)<|γ bC ε) θ) θ)<|δ (az<|Ω (Λ "tell_behind")<|γ ν<|γ bZ<|γ (ag (aeX .Add) bZ<|aH a9<|γ aT ε)<|γ (af (aeX .Sub) cF bZ) ε)<|δ (bk ng) θ)
theorem ik:(Λ "replace")=av 5 (some .none) 4 DY.d:=by kernel_rfl
def GS:aa aS:=(δ (az<|Ω (Λ "need_writable")<|γ ν ε)<|δ (gq (gc [3,4])<|Ω (Λ "reached")<|γ ν<|γ ae<|γ aC ε)<|δ (bF (ao<|ag oEq aT bC) (δ (bk<|c8<|cj ε) θ) θ)<|δ (az<|Ω (Λ "tell_ahead")<|γ ν<|γ aT<|γ bC ε)<|δ (aR 5<|Ω (Λ "text_out")<|γ ν<|γ aT<|γ bC ε)<|δ (az<|aW (bg 78) "deleted" (ξ "markers" ν)<|γ aT<|γ bC ε)<|δ (az<|Ω (Λ "hung_out")<|γ ν<|γ aT<|γ bC ε)<|δ (az<|Ω (Λ "tell_behind")<|γ ν<|γ aT<|γ aT<|γ (af (aeX .Sub) bC aT) ε)<|δ (bk bZ) θ)
theorem HT:(Λ "delete")=av 3 none 3 GS.d:=by kernel_rfl
def NV:aa aS:=(δ (az<|Ω (Λ "put_in_editing")<|γ ν<|γ (ξ "point" ν)<|γ ae<|γ aC<|γ (χ<|.bool true) ε) θ)
theorem Pc:I9=av 3 (some<|.bool false) 0 NV.d:=by kernel_rfl
def zB:aa aS:=(δ (az<|Ω (Λ "put_in_editing")<|γ ν<|γ ae<|γ aC<|γ aT<|γ (χ<|.bool false) ε) θ)
theorem q7:(Λ "insert_at")=av 4 (some<|.bool false) 0 zB.d:=by kernel_rfl
def qQ:aa aS:=(δ (az<|Ω (Λ "need_writable")<|γ ν ε)<|δ (az<|Ω (Λ "reached")<|γ ν<|γ ae<|γ ae ε)<|δ (bF (ao<|ag oEq (aH a9<|γ aC ε) da) (δ qA θ) θ)<|δ (az<|Ω (Λ "need_room")<|γ ν<|γ (aH a9<|γ aC ε) ε)<|δ (az<|Ω (Λ "tell_ahead")<|γ ν<|γ ae<|γ ae ε)<|δ (az<|Ω (Λ "text_in")<|γ ν<|γ ae<|γ aC ε)<|δ (bF (ao bC) (δ (aE "point" ν<|ag (aeX .Add) ae<|aH a9<|γ aC ε) θ) θ)<|δ (az<|aW (bg 81) "inserted" (ξ "markers" ν)<|γ ae<|γ (ag (aeX .Add) ae<|aH a9<|γ aC ε)<|γ aT ε)<|δ (az<|Ω (Λ "hung_in")<|γ ν<|γ ae<|γ (aH a9<|γ aC ε)<|γ aT ε)<|δ (az<|Ω (Λ "tell_behind")<|γ ν<|γ ae<|γ (ag (aeX .Add) ae<|aH a9<|γ aC ε)<|γ da ε) θ)
theorem gf:(Λ "put_in_editing")=av 5 none 0 qQ.d:=by kernel_rfl
def DT:aa aS:=(δ (bF (ao<|af (j1 false) (ξ "props" ν)<|χ .none) (δ (az<|aW (bg 82) "text_came" (ξ "props" ν)<|γ (af (aeX .Sub) ae bK)<|γ aC ε) θ) θ)<|δ (bF (ao<|af (j1 false) (ξ "overlays" ν)<|χ .none) (δ (az<|aW (bg 82) "text_came" (ξ "overlays" ν)<|γ (af (aeX .Sub) ae bK)<|γ aC<|γ aT ε) θ) θ) θ)
theorem EI:(Λ "hung_in")=av 4 none 0 DT.d:=by kernel_rfl
def AF:aa aS:=(δ (bF (ao<|af (j1 false) (ξ "props" ν)<|χ .none) (δ (az<|aW (bg 83) "text_gone" (ξ "props" ν)<|γ (af (aeX .Sub) ae bK)<|γ (af (aeX .Sub) aC bK) ε) θ) θ)<|δ (bF (ao<|af (j1 false) (ξ "overlays" ν)<|χ .none) (δ (az<|aW (bg 83) "text_gone" (ξ "overlays" ν)<|γ (af (aeX .Sub) ae bK)<|γ (af (aeX .Sub) aC bK) ε) θ) θ) θ)
theorem Ct:(Λ "hung_out")=av 3 none 0 AF.d:=by kernel_rfl
def D1:aa aS:=(δ (bF (ao<|af (j1 false) (ξ "undo" ν)<|χ .none) (δ (az<|aW (bg 84) "text_comes" (ξ "undo" ν)<|γ ν<|γ ae<|γ (aH a9<|γ aC ε) ε) θ) θ)<|δ (az<|aW (bg 84) "insert" (ξ "text" ν)<|γ (af (aeX .Sub) ae bK)<|γ aC ε)<|δ (aE "zv" ν<|ag (aeX .Add) (ξ "zv" ν)<|aH a9<|γ aC ε)<|δ (bF (ao<|af hr (ξ "point" ν) ae) (δ (aE "point" ν<|ag (aeX .Add) (ξ "point" ν)<|aH a9<|γ aC ε) θ) θ) θ)
theorem pe:(Λ "text_in")=av 3 none 0 D1.d:=by kernel_rfl
def AK:aa aS:=(δ (bF (ao<|af (j1 false) (ξ "undo" ν)<|χ .none) (δ (az<|aW (bg 85) "text_goes" (ξ "undo" ν)<|γ ν<|γ ae<|γ aC ε) θ) θ)<|δ (aR 3<|aW (bg 85) "delete" (ξ "text" ν)<|γ (af (aeX .Sub) ae bK)<|γ (af (aeX .Sub) aC bK) ε)<|δ (aE "zv" ν<|af (aeX .Sub) (ξ "zv" ν)<|af (aeX .Sub) aC ae)<|δ (bF (ao<|af hr (ξ "point" ν) ae) (δ (aE "point" ν<|hR r3<|γ ae<|γ (af (aeX .Sub) (ξ "point" ν)<|af (aeX .Sub) aC ae) ε) θ) θ)<|δ (bk aT) θ)
theorem sE:(Λ "text_out")=av 3 none 1 AK.d:=by kernel_rfl
def qT:aa aS:=(δ (az<|aW (bg 86) "after_change" bC<|γ ν<|γ ae<|γ aC<|γ aT ε) θ)
def qS:aI:=(kJ (γ (ξ "listeners" ν) ε).d)
def qR:aI:=(eh (c8<|wX qS).d)
def u9:aa aS:=(δ (az<|aW (bg 86) "touch" ν<|γ (χ<|.bool true) ε)<|δ (e9 (bh 4) qT qR) θ)
theorem wH:(Λ "tell_behind")=av 4 none 1 u9.d:=by kernel_rfl
def sd:aa aS:=(δ (az<|aW (bg 87) "before_change" aT<|γ ν<|γ ae<|γ aC ε) θ)
def sb:aI:=(kJ (γ (ξ "listeners" ν) ε).d)
def sa:aI:=(eh (c8<|wX sb).d)
def w0:aa aS:=(δ (e9 (bh 3) sd sa) θ)
theorem xG:(Λ "tell_ahead")=av 3 none 1 w0.d:=by kernel_rfl
def DX:aa aS:=(δ (gq (tY [3,4])<|eG<|γ (hR uO<|γ ae<|γ aC ε)<|γ (hR r3<|γ ae<|γ aC ε) ε)<|δ (bF (fa (ao<|af oLt aT<|ξ "begv" ν)<|fa (ao<|af hr bC<|ξ "zv" ν) zp) (δ (qz<|γ (χ<|.str 3)<|γ (c8<|cj<|γ ae<|γ aC ε) ε) θ) θ)<|δ (bk<|eG<|γ aT<|γ bC ε) θ)
theorem pb:(Λ "reached")=av 3 none 2 DX.d:=by kernel_rfl
def zC:aa aS:=(δ (bF (ao<|af hr (ag (aeX .Add) (aW (bg 89) "size" ν ε) ae)<|χ<|.int 4194304) (δ (qz<|γ (χ<|.str 1)<|γ (c8<|cj<|γ (χ<|.str 2) ε) ε) θ) θ) θ)
theorem Aa:(Λ "need_room")=av 2 none 0 zC.d:=by kernel_rfl
def r9:aa aS:=(δ (bF (ao<|ξ "is_read_only" ν) (δ (qz<|γ (χ<|.str 0)<|γ (c8<|cj<|γ (ξ "name" ν) ε) ε) θ) θ) θ)
theorem sC:(Λ "need_writable")=av 1 none 0 r9.d:=by kernel_rfl
def qN:aa aS:=(δ (az<|ep cF (eG<|γ fY<|γ zq ε) eN) θ)
def qL:aI:=(eh (aW (bg 91) "within" (ξ "markers" ae)<|γ aC<|γ aT ε).d)
def qM:aI:=(mT<|eh bC.d)
def uT:aa aS:=(δ (bF (iV<|ao<|ξ "is_on"<|ξ "list" ν) (δ qA θ) θ)<|δ (aR 4<|bF (ao<|af (j1 true) (ξ "props" ae)<|χ .none) (c8<|cj ε)<|aW (bg 91) "rows_between" (ξ "props" ae)<|γ (af (aeX .Sub) aC bK)<|γ (af (aeX .Sub) aT bK) ε)<|δ (xi false 5 qM)<|δ (aR 6<|c8<|cj ε)<|δ (e9 (bh 7) qN qL)<|δ (aR 8<|Ω (fW 10)<|γ (aW (bg 91) "codes" ae<|γ aC<|γ aT ε)<|γ bZ ε)<|δ (az<|aW (bg 91) "note_delete" (ξ "list" ν)<|γ aC<|γ ng<|γ (ξ "point" ae)<|γ cF<|γ (aW (bg 91) "is_modified" ae ε)<|γ (ξ "saved_ticks" ae) ε) θ)
theorem oj:(bw 11 "text_goes")=av 4 none 5 uT.d:=by kernel_rfl
def tH:aa aS:=(δ (az<|aW (bg 92) "note_insert" (ξ "list" ν)<|γ aC<|γ aT<|γ (ξ "point" ae)<|γ (aW (bg 92) "is_modified" ae ε)<|γ (ξ "saved_ticks" ae) ε) θ)
theorem mQ:(bw 11 "text_comes")=av 4 none 0 tH.d:=by kernel_rfl
def Vi:aa aS:=(δ (aE "codes" ν ae)<|δ (aE "runs" ν aC) θ)
theorem YB:(fW 10)=c3 dU (gW 10<|av 3 none 0 Vi.d):=by kernel_rfl
def pW:aa aS:=(δ (bF (ao<|ag iy ng da) (δ (az<|ep (ξ "rows" ν) (eG<|γ (χ<|.str 11)<|γ fY<|γ ng ε) eN) θ) θ) θ)
def pV:aI:=(eh bC.d)
def tN:aa aS:=(δ (bF (fa (iV<|ao<|ξ "is_on" ν)<|fa (ao<|ag oEq (aH a9<|γ (ξ "codes" aC) ε) da) zp) (δ qA θ) θ)<|δ (az<|aW (bg 94) "note_begin" ν<|γ ae<|γ bZ<|γ cF ε)<|δ (e9 (gc [7,8]) pW pV)<|δ (az<|ep (ξ "rows" ν) (eG<|γ (χ<|.str 10)<|γ ae<|γ aC<|γ (ag oEq aT<|ag (aeX .Add) ae<|aH a9<|γ (ξ "codes" aC) ε) ε) eN) θ)
theorem uc:(bw 9 "note_delete")=av 7 none 2 tN.d:=by kernel_rfl
def tO:aa aS:=(δ (bF (fa (iV<|ao<|ξ "is_on" ν)<|fa (ao<|ag oEq aC da) zp) (δ qA θ) θ)<|δ (az<|aW (bg 95) "note_begin" ν<|γ ae<|γ bC<|γ bZ ε)<|δ (aR 6<|bF (ao<|af hr (aH a9<|γ (ξ "rows" ν) ε) da) (bT (ξ "rows" ν)<|χ<|.int<|-1)<|χ<|.tup [(.str 8)])<|δ (bF (cM (ao<|ag oEq (bT cF da)<|χ<|.str 9)<|cM (ao<|ag oEq (bT cF<|χ<|.int 2) ae) qK) (δ (L1 (ξ "rows" ν) (χ<|.int<|-1)<|eG<|γ (χ<|.str 9)<|γ (bT cF bK)<|γ (ag (aeX .Add) ae aC) ε) θ)<|δ (az<|ep (ξ "rows" ν) (eG<|γ (χ<|.str 9)<|γ ae<|γ (ag (aeX .Add) ae aC) ε) eN) θ) θ)
theorem fR:(bw 9 "note_insert")=av 6 none 1 tO.d:=by kernel_rfl
def uY:aa aS:=(δ (aR 4<|aW (bg 96) "is_at_boundary" ν ε)<|δ (az<|aW (bg 96) "note_state" ν<|γ aC<|γ aT ε)<|δ (bF (cM (ao bC)<|cM (ao<|af (j1 false) (ξ "point_before" ν)<|χ .none)<|cM (ao<|ag iy (ξ "point_before" ν) ae) qK) (δ (az<|ep (ξ "rows" ν) (eG<|γ (χ<|.str 12)<|γ (ξ "point_before" ν) ε) eN) θ) θ) θ)
theorem om:(bw 9 "note_begin")=av 4 none 1 uY.d:=by kernel_rfl
def uZ:aa aS:=(δ (bF (cM (iV<|ao ae)<|cM (ao<|ag iy aC<|ξ "noted_tick" ν) qK) (δ (az<|ep (ξ "rows" ν) (eG<|γ (χ<|.str 14)<|γ aC ε) eN)<|δ (aE "noted_tick" ν aC) θ) θ) θ)
theorem wz:(bw 9 "note_state")=av 3 none 0 uZ.d:=by kernel_rfl
def zv:aa aS:=(δ (bF (iV<|ao<|aW (bg 98) "is_at_boundary" ν ε) (δ (az<|ep (ξ "rows" ν) (χ<|.tup [(.str 8)]) eN) θ) θ) θ)
theorem jC:(bw 9 "boundary")=av 1 none 0 zv.d:=by kernel_rfl
def pU:aa aS:=(δ (bk<|YZ (ag oEq (aH a9<|γ (ξ "rows" ν) ε) da)<|ag oEq (bT (ξ "rows" ν)<|χ<|.int<|-1)<|χ<|.tup [(.str 8)]) θ)
theorem cZ:(bw 9 "is_at_boundary")=av 1 none 0 pU.d:=by kernel_rfl
def GQ:aa aS:=(δ (aE "ticks" ν<|ag (aeX .Add) (ξ "ticks" ν) bK)<|δ (bF (ao ae) (δ (aE "codes_ticks" ν<|ξ "ticks" ν) θ) θ) θ)
theorem HQ:(bw 7 "touch")=av 2 none 0 GQ.d:=by kernel_rfl
def tM:aa aS:=(δ (bk<|af oLt (ξ "saved_ticks" ν)<|ξ "ticks" ν) θ)
theorem ua:(bw 7 "is_modified")=av 1 none 0 tM.d:=by kernel_rfl
def JX:aa aS:=(δ (aE "point" ν<|hR uO<|γ (hR r3<|γ ae<|γ (ξ "begv" ν) ε)<|γ (ξ "zv" ν) ε)<|δ (bk<|ξ "point" ν) θ)
theorem Mv:(bw 7 "goto")=av 2 none 0 JX.d:=by kernel_rfl
def GP:aa aS:=(δ (bk<|aW (bg 103) "codes" (ξ "text" ν)<|γ (af (aeX .Sub) ae bK)<|γ (af (aeX .Sub) aC bK) ε) θ)
theorem HP:(bw 7 "codes")=av 3 none 0 GP.d:=by kernel_rfl
def AE:aa aS:=(δ (bF (fa (ao<|af oLt ae<|ξ "begv" ν)<|fa (ao<|af vW ae<|ξ "zv" ν) zp) (δ (bk<|χ<|.int<|-1) θ) θ)<|δ (bk<|aW (bg 104) "code" (ξ "text" ν)<|γ (af (aeX .Sub) ae bK) ε) θ)
theorem sz:(bw 7 "code_at")=av 2 none 0 AE.d:=by kernel_rfl
def JY:aa aS:=(δ (bk<|aW (bg 105) "size" (ξ "text" ν) ε) θ)
theorem Mw:(bw 7 "size")=av 1 none 0 JY.d:=by kernel_rfl
def NU:aa aS:=(δ (bk<|ξ "zv" ν) θ)
theorem O9:(bw 7 "end")=av 1 none 0 NU.d:=by kernel_rfl
def GO:aa aS:=(δ (bk<|ξ "begv" ν) θ)
theorem HO:(bw 7 "begin")=av 1 none 0 GO.d:=by kernel_rfl
def tL:aa aS:=(δ (aR 5<|bT (ξ "rows" ν) bC)<|δ (bF (ao<|af vW (ξ "position" bZ) aC) (δ (aE "position" bZ<|af (aeX .Sub) (ag (aeX .Add) (ξ "position" bZ) aT)<|af (aeX .Sub) aC ae) θ)<|δ (bF (ao<|af hr (ξ "position" bZ) ae) (δ (aE "position" bZ ae) θ) θ) θ) θ)
def tK:aI:=(eh (aW (bg 108) "numbers" ν ε).d)
def zu:aa aS:=(δ (e9 (bh 4) tL tK) θ)
theorem z5:(bw 5 "replaced")=av 4 none 2 zu.d:=by kernel_rfl
def uX:aa aS:=(δ (aR 4<|bT (ξ "rows" ν) aT)<|δ (bF (ao<|af hr (ξ "position" bC) aC) (δ (aE "position" bC<|af (aeX .Sub) (ξ "position" bC)<|af (aeX .Sub) aC ae) θ)<|δ (bF (ao<|af hr (ξ "position" bC) ae) (δ (aE "position" bC ae) θ) θ) θ) θ)
def uW:aI:=(eh (aW (bg 109) "numbers" ν ε).d)
def AD:aa aS:=(δ (e9 (bh 3) uX uW) θ)
theorem Cq:(bw 5 "deleted")=av 3 none 2 AD.d:=by kernel_rfl
def tJ:aa aS:=(δ (aR 5<|bT (ξ "rows" ν) bC)<|δ (bF (fa (ao<|af hr (ξ "position" bZ) ae)<|fa (cM (ao<|ag oEq (ξ "position" bZ) ae)<|cM (fa (ao aT)<|fa (ao<|ξ "advances" bZ) zp) qK) zp) (δ (aE "position" bZ<|af (aeX .Sub) (ag (aeX .Add) (ξ "position" bZ) aC) ae) θ) θ) θ)
def tI:aI:=(eh (aW (bg 110) "numbers" ν ε).d)
def zt:aa aS:=(δ (e9 (bh 4) tJ tI) θ)
theorem z4:(bw 5 "inserted")=av 4 none 2 zt.d:=by kernel_rfl
def DR:aa aS:=(δ (aR 3<|aW (bg 113) "codes" ν<|γ ae<|γ aC ε)<|δ (bF (ao<|af oLt aC<|ξ "gap_start" ν) (δ (az<|aW (bg 113) "move_gap" ν<|γ aC ε) θ) θ)<|δ (bF (ao<|af hr ae<|ξ "gap_start" ν) (δ (az<|aW (bg 113) "move_gap" ν<|γ ae ε) θ) θ)<|δ (aE "gap_end" ν<|af (aeX .Sub) (ag (aeX .Add) (ξ "gap_end" ν) aC)<|ξ "gap_start" ν)<|δ (aE "gap_start" ν ae)<|δ (bk aT) θ)
theorem o6:(bw 4 "delete")=av 3 none 1 DR.d:=by kernel_rfl
def DS:aa aS:=(δ (az<|aW (bg 114) "widen_gap" ν<|γ (aH a9<|γ aC ε) ε)<|δ (az<|aW (bg 114) "move_gap" ν<|γ ae ε)<|δ (ml (ξ "cells" ν) ae (ag (aeX .Add) ae<|aH a9<|γ aC ε) aC)<|δ (aE "gap_start" ν<|ag (aeX .Add) ae<|aH a9<|γ aC ε) θ)
theorem EH:(bw 4 "insert")=av 3 none 0 DS.d:=by kernel_rfl
def wY:aa aS:=(δ (aR 2<|af (aeX .Sub) ae<|af (aeX .Sub) (ξ "gap_end" ν)<|ξ "gap_start" ν)<|δ (bF (ao<|af hr aC da) (δ (ml (ξ "cells" ν) (ξ "gap_end" ν) (ξ "gap_end" ν)<|ag (aeX .Mult) (c8<|cj<|γ da ε)<|ag (aeX .Add) aC<|ξ "room" ν)<|δ (aE "gap_end" ν<|ag (aeX .Add) (ag (aeX .Add) (ξ "gap_end" ν) aC)<|ξ "room" ν) θ) θ) θ)
theorem o7:(bw 4 "widen_gap")=av 2 none 1 wY.d:=by kernel_rfl
def zr:aa aS:=(δ (bF (ao<|af oLt ae<|ξ "gap_start" ν) (δ (aR 2<|d2 (ξ "cells" ν) ae<|ξ "gap_start" ν)<|δ (ml (ξ "cells" ν) (af (aeX .Sub) (ξ "gap_end" ν)<|aH a9<|γ aC ε) (ξ "gap_end" ν) aC)<|δ (aE "gap_end" ν<|af (aeX .Sub) (ξ "gap_end" ν)<|aH a9<|γ aC ε) θ)<|δ (aR 2<|d2 (ξ "cells" ν) (ξ "gap_end" ν)<|af (aeX .Sub) (ag (aeX .Add) (ξ "gap_end" ν) ae)<|ξ "gap_start" ν)<|δ (ml (ξ "cells" ν) (ξ "gap_start" ν) (ag (aeX .Add) (ξ "gap_start" ν)<|aH a9<|γ aC ε) aC)<|δ (aE "gap_end" ν<|ag (aeX .Add) (ξ "gap_end" ν)<|aH a9<|γ aC ε) θ)<|δ (aE "gap_start" ν ae) θ)
theorem q4:(bw 4 "move_gap")=av 2 none 1 zr.d:=by kernel_rfl
def GN:aa aS:=(δ (aR 3<|af (aeX .Sub) (ξ "gap_end" ν)<|ξ "gap_start" ν)<|δ (bF (ao<|af oLe aC<|ξ "gap_start" ν) (δ (bk<|d2 (ξ "cells" ν) ae aC) θ) θ)<|δ (bF (ao<|af vW ae<|ξ "gap_start" ν) (δ (bk<|d2 (ξ "cells" ν) (ag (aeX .Add) ae aT)<|ag (aeX .Add) aC aT) θ) θ)<|δ (bk<|ag (aeX .Add) (d2 (ξ "cells" ν) ae<|ξ "gap_start" ν)<|d2 (ξ "cells" ν) (ξ "gap_end" ν)<|ag (aeX .Add) aC aT) θ)
theorem rK:(bw 4 "codes")=av 3 none 1 GN.d:=by kernel_rfl
def JV:aa aS:=(δ (bF (ao<|af oLt ae<|ξ "gap_start" ν) (δ (bk<|bT (ξ "cells" ν) ae) θ) θ)<|δ (bk<|bT (ξ "cells" ν)<|ag (aeX .Add) (af (aeX .Sub) ae<|ξ "gap_start" ν)<|ξ "gap_end" ν) θ)
theorem AZ:(bw 4 "code")=av 2 none 0 JV.d:=by kernel_rfl
def JW:aa aS:=(δ (bk<|ag (aeX .Add) (af (aeX .Sub) (aH a9<|γ (ξ "cells" ν) ε)<|ξ "gap_end" ν)<|ξ "gap_start" ν) θ)
theorem Mu:(bw 4 "size")=av 1 none 0 JW.d:=by kernel_rfl
structure cG where
 cells:List Int
 b9:Int
 ge:Int
 pt:Int
 fJ:Int
 tk:Int
 xQ:Int
noncomputable def zs(l:List Int):List ζ:=l.map .int
theorem aZ(l:List Int):(zs l).length=l.length:=length_map ..
theorem eM(l m:List Int):zs (l++m)=zs l++zs m:=List.map_append ..
theorem Hr(L:List Int)(s e:Nat):((zs L).drop s).take e=zs ((L.drop s).take e):=by unfold zs;rw[map_take,map_drop]
def aQ(u:ζ)(b:cG)(t:List Ξ):List Ξ:=.obj 7 [some<|.int 1,some<|.str 15,some<|.ref 1,some<|.ref 3,some<|.int b.pt,some<|.int 1,some<|.int b.fJ,some .none,some<|.bool true,some<|.bool false,some<|.int b.tk,some<|.int b.xQ,some<|.int 1,some<|.list [],some u,some .none,some .none,some .none,some .none,some .none]::.obj 4 [some<|.int 8,some<|.ref 2,some<|.int b.b9,some<|.int b.ge]::.lst (zs b.cells)::.obj 5 [some .dJ]::t
theorem e2{p:Prop}[Decidable p](h:p):decide p=true:=decide_eq_true h
theorem f5{p:Prop}[Decidable p](h:¬p):decide p=false:=decide_eq_false h
theorem Res.d4{β:Type}{c:Prop}[Decidable c]{x:β×aD}(h:c):Res.of (if c then some x else none)=.ok x.1 x.2:=by rw[if_pos h];rfl
theorem jn{i:Nat}{n:Int}(h:xs.length<=sizeLine)(e:(xs.length:Int)=n)(a:aD)(b:a.σ[i]?=some (.lst xs)):a9 [.ref i] a=.ok (.int n) a:=by subst e;show Res.of (Option.bind ((a.σ[i]?).bind dv) _)=_;rw[b];exact Res.d4 h
theorem eT{n:Int}(h:xs.length<=sizeLine)(e:(xs.length:Int)=n)(a:aD):a9 [.list xs] a=.ok (.int n) a:=by subst e;exact Res.d4 h
variable {L:List Int}
theorem lenZ(h:L.length<=sizeLine)(a:aD):a9 [.list<|zs L] a=.ok (.int L.length) a:=eT (by rw[aZ];exact h) (by rw[aZ]) a
theorem UR{i:Nat}(h:L.length<=sizeLine)(a:aD)(b:a.σ[i]?=some (.lst<|zs L)):a9 [.ref i] a=.ok (.int L.length) a:=jn (by rw[aZ];exact h) (by rw[aZ]) a b
theorem gV{i:Nat}(h:i<=n):clipAt n (i:Int)=i:=by unfold clipAt;rw[if_neg<|Int.not_lt.mpr<|natCast_nonneg i,Int.min_eq_left<|ofNat_le.mpr h,Int.max_eq_right<|natCast_nonneg i];rfl
theorem BV{α:Type}{xs:List α}{s e:Nat}(b:s<=xs.length)(c:e<=xs.length):fx xs (some (s:Int)) (some (e:Int))=(xs.drop s).take (e-s):=by show(xs.drop<|clipAt xs.length s).take (clipAt xs.length e-clipAt xs.length s)=_;rw[gV b,gV c]
theorem Y4{s e:Nat}(b:s<=L.length)(c:e<=L.length):fx (zs L) (some (s:Int)) (some (e:Int))=zs ((L.drop s).take<|e-s):=by rw[BV (by rw[aZ];exact b) (by rw[aZ];exact c),Hr]
theorem D4(A B C:List Int):fx (zs<|A++(B++C)) (some (A.length:Int)) (some ((A.length+B.length:Nat):Int))=zs B:=by rw[Y4 (by rw[Δ];exact le_add_right _ _) (by rw[Δ,Δ,←Nat.add_assoc];exact le_add_right _ _),drop_left,Nat.add_sub_cancel_left,take_left]
variable {B C:List Int}
theorem ur{i:Nat}{A:List Int}{s e:Int}(c:L=A++(B++C))(g:L.length<=sizeLine)(d:s=A.length)(f:e=A.length+B.length)(a:aD)(b:a.σ[i]?=some (.lst<|zs L)):ic (.ref i) (.int s) (.int e) a=.ok (.list<|zs B) a:=by subst d f;show Res.of (Option.bind ((a.σ[i]?).bind dv) _)=_;rw[b,←D4 A B C,←c];exact Res.d4 (by rw[aZ];exact g)
theorem XO{A:List Int}{s e:Int}(b:L=A++(B++C))(f:L.length<=sizeLine)(c:s=A.length)(d:e=A.length+B.length)(a:aD):ic (.list<|zs L) (.int s) (.int e) a=.ok (.list<|zs B) a:=by subst c d;rw[←D4 A B C,←b];exact Res.d4 (by rw[aZ];exact f)
theorem NM(A B C M:List Int):gC (zs<|A++(B++C)) (some (A.length:Int)) (some ((A.length+B.length:Nat):Int)) (zs M)=zs (A++(M++C)):=by
 show(zs<|A++(B++C)).take (clipAt (zs<|A++(B++C)).length A.length)++zs M++(zs<|A++(B++C)).drop (max (clipAt (zs<|A++(B++C)).length A.length)<|clipAt (zs<|A++(B++C)).length (A.length+B.length:Nat))=_;have b:A.length+B.length<=(A++(B++C)).length:=by rw[Δ,Δ,←Nat.add_assoc];exact le_add_right _ _
 rw[aZ,gV<|Nat.le_trans (le_add_right _ _) b,gV b,Nat.max_eq_right<|le_add_right _ _,eM,eM,eM,eM,←aZ A,←aZ B,←drop_drop,take_left,drop_left,drop_left,bp]
variable {N:List Int}
theorem DJ{i:Nat}{A M:List Int}{s e:Int}(c:L=A++(B++C))(d:A++(M++C)=N)(h:L.length+M.length<=sizeLine)(f:s=A.length)(g:e=A.length+B.length)(a:aD)(b:a.σ[i]?=some (.lst<|zs L)):
 SS (.list<|zs M) (.ref i) (.int s) (.int e) a=.ok .next ⟨a.ρ,a.σ.set i<|.lst<|zs N⟩:=by
 subst f g d
 show Res.of (Option.bind ((a.σ[i]?).bind dv) _)=_
 rw[b,←NM A B C,←c]
 exact Res.d4 (by rw[aZ,aZ];exact h)
theorem Xy(h:xs.length+ys.length<=sizeLine)(a:aD):aeX .Add (.list xs) (.list ys) a=.ok (.list<|xs++ys) a:=Res.d4 h
theorem gS{M:List Int}(h:L.length+M.length<=sizeLine)(e:L++M=N)(a:aD):aeX .Add (.list<|zs L) (.list<|zs M) a=.ok (.list<|zs N) a:=by subst e;rw[eM];exact Xy (by rw[aZ,aZ];exact h) a
theorem uS(x:Int):∀n:Nat,rep [.int x] n=zs (List.replicate n x)
 |0=>rfl
 |n+1=>by show _=ζ.int x::zs (List.replicate n x);rw[←uS x n];rfl
theorem rN{dC d5:fh}{r:Res ζ}(b:dC p q a=.stuck)(c:d5 p q a=r):mB dC d5 p q a=r:=by unfold mB;rw[b];exact c
noncomputable def qc:Int:=2^63
theorem G3:(sizeLine:Int)<qc:=by decide+kernel
theorem U1:-qc<=0:=by decide+kernel
theorem Yx(b:Int)(xs:List ζ)(n:Int)(a:aD)(h0:xs.isEmpty=false)(d:-b<=n)(e:n<b)(c:xs.length*n.toNat<=sizeLine):(if xs.isEmpty=false then(if-b<=n then if n<b then if xs.length*n.toNat<=sizeLine then some (ζ.list<|rep xs n.toNat,a)else none else none else none)else none)=some (ζ.list<|rep xs n.toNat,a):=by rw[if_pos h0,if_pos d,if_pos e,if_pos c]
theorem y9(xs:List ζ)(n:Int)(a:aD)(h0:xs.isEmpty=false)(c:-qc<=n)(d:n<qc)(b:xs.length*n.toNat<=sizeLine):tA (.list xs) (.int n) a=.ok (.list<|rep xs n.toNat) a:=congrArg Res.of<|Yx qc xs n a h0 c d b
theorem y8(xs:List ζ)(q:ζ)(a:aD):xh (.list xs) q a=.stuck:=rfl
theorem Gf(p q:ζ)(a:aD):aeX .Mult p q a=mB xh tA p q a:=rfl
theorem agc{n:Int}{m:Nat}(h:n=m)(b:m<=sizeLine)(a:aD):aeX .Mult (.list [.int x]) (.int n) a=.ok (.list<|zs<|List.replicate m x) a:=by subst h;rw[←uS];exact(Gf _ _ a).trans<|rN (y8 _ _ a)<|y9 [.int x] m a rfl (Int.le_trans U1<|natCast_nonneg m) (Int.lt_of_le_of_lt (ofNat_le.mpr b) G3) (by rw[toNat_natCast];exact Nat.le_trans (Nat.le_of_eq<|Nat.one_mul m) b)
theorem bb(h:n<=8388624):n<=sizeLine:=Nat.le_trans h (by decide)
structure k3(b:cG)(pre gap post:List Int):Prop where
 cells:b.cells=pre++(gap++post)
 b9:b.b9=pre.length
 ge:b.ge=pre.length+gap.length
 c5:b.cells.length<=4194312
variable {gap post:List Int}{b:cG}{u:ζ}
section
variable {pre A:List Int}{t:List Ξ}
theorem k3.jx(g:k3 b pre gap post):b.cells.length<=sizeLine:=bb (Nat.le_trans g.c5<|by decide)
theorem k3.S5(g:k3 b pre gap post):b.cells.length+b.cells.length<=sizeLine:=bb<|add_le_add g.c5 g.c5
theorem k3.len(g:k3 b pre gap post):b.cells.length=pre.length+(gap.length+post.length):=by rw[g.cells,Δ,Δ]
theorem CH{X Y:List Int}(h:X++Y=A++C):(∃Z,A=X++Z/\Y=Z++C)\/∃z Z,X=A++z::Z/\C=z::Z++Y:=by
 refine Θ λd=>?_;rcases List.append_eq_append_iff.mp h with⟨Z,b,c⟩|⟨Z,b,c⟩
 ·exact d<|.inl ⟨Z,b,c⟩
 ·cases Z with
  |nil=>exact d<|.inl ⟨[],by rw[b,append_nil,append_nil],c.symm⟩
  |cons z Z=>exact d<|.inr ⟨z,Z,b,c⟩
theorem Bi(g:k3 b pre gap post)(h:pre++post=A++(B++C)){s e:Int}(i:s=A.length)(f:e=A.length+B.length):bw 4 "codes" [.ref 1,.int s,.int e] (aQ u b t)=.ok (.list<|zs B) ⟨[],aQ u b t⟩:=by
 refine Θ λn=>?_;have c:=g.b9;have k:=g.ge;rcases CH (h.trans (bp ..).symm).symm with⟨X,q,j⟩|⟨y,Y,q,j⟩
 ·have l:=congrArg length q;simp only[Δ]at l;refine n ?_;refine π rK [.T<|e2 (p:=e<=b.b9)<|fB 0x106e1012e93910218eb2108e9b1b00 [_,_,_,_] [_,_] ι f c l,.w 2<|ur (C:=X++(gap++post)) (by rw[g.cells,q];simp only[bp]) g.jx i f]
 ·rcases CH q.symm with⟨Z,r,r'⟩|⟨z,Z,r,r'⟩
  ·have l:=congrArg length r;have d:=congrArg length r';simp only[Δ,length_cons]at l d;refine n ?_;refine π rK [.F<|f5 (p:=e<=b.b9)<|oJ 0x129e3e8381002e9139118432e3e838932028e3e838b2138e3e8389b1b00 [_,_,_,_,_] [_,_] ι f c l d,.T<|e2 (p:=s>=b.b9)<|fB 0x106e0112e921008eb1118eb00 [_,_,_] [_,_] ι i c l,.w 2<|ur (A:=pre++(gap++Z)) (B:=B) (C:=C) (s:=s+(b.ge-b.b9)) (e:=e+(b.ge-b.b9)) (by rw[g.cells,j,r'];simp only[bp]) g.jx (by simp only[Δ];exact(oJ 0x108eb993219a12002e931008e9b2b1218eb1108eb00 [_,_,_,_] [_,_,_] ι i c k l)) (by simp only[Δ];exact(oJ 0x108e9b1b994329a12002e942008e9b3b2218eb2108e9b1b00 [_,_,_,_,_] [_,_,_] ι f c k l))]
  ·have l:=congrArg length r;have d:=congrArg length r';have o:=g.S5;have v:=g.len;have m:=congrArg length j;simp only[Δ,length_cons]at l d m;refine n ?_;have hz:Z.length+1+(Y.length+1)<=sizeLine:=by lia
   refine π rK [.F<|f5 (p:=e<=b.b9)<|oJ 0x109e1012e99118491183102e9911830208eb2118e9b1b00 [_,_,_,_,_] [_,_] ι f c l d,.F<|f5 (p:=s>=b.b9)<|fB 0x109e0112e9911820118eb1108eb00 [_,_,_] [_,_] ι i c l,
    .w 2 (ur (B:=z::Z) (C:=gap++post) (e:=b.b9) (by rw[g.cells,r];simp only[bp]) g.jx i (by simp only[length_cons];exact(cP 0x108e9b91182b1002e9911821008eb00 [_,_,_] [_] ι c l))),
    .w 2 (ur (A:=pre++gap) (B:=y::Y) (C:=C) (s:=b.ge) (e:=e+(b.ge-b.b9)) (by rw[g.cells,j];simp only[bp]) g.jx (by simp only[Δ];exact(bP 0x108eb910008e9b1b00 [_,_] [_] ι k)) (by simp only[Δ,length_cons];exact(OF 0x108e9b91185b9329a12002e99118591184112e9911840208e9b3b2218eb2108e9b1b00 [_,_,_,_,_,_] [_,_,_] ι f c k l d))),
    .v (gS (by simp only[length_cons];exact hz) r'.symm)]
end
theorem HK{i:Nat}(h:i<n):gT n (i:Int)=some i:=by unfold gT;rw[if_pos<|natCast_nonneg i,if_pos<|ofNat_lt.mpr h];rfl
theorem LJ{x:ζ}(e:xs.length=n):(xs++x::ys)[n]?=some x:=by subst e;rw[List.getElem?_append_right<|Nat.le_refl _,Nat.sub_self];rfl
theorem WG{β:Type}{L:List ζ}{x:ζ}{k:Int}(b:L=xs++x::ys)(d:L.length<=sizeLine)(c:k=xs.length)(a:aD):Res.of (if L.length<=sizeLine then(gT L.length k).bind λj=>(L[j]?).bind λx=>some (x,a)else none)=.ok x a:=by subst c;rw[if_pos d,HK (by rw[b,Δ];exact Nat.lt_add_of_pos_right<|succ_pos _)];show Res.of ((L[xs.length]?).bind _)=_;rw[b,LJ rfl];rfl
theorem LI{i:Nat}{L:List ζ}{x:ζ}{k:Int}(c:L=xs++x::ys)(e:L.length<=sizeLine)(d:k=xs.length)(a:aD)(b:a.σ[i]?=some (.lst L)):yP (.ref i) (.int k) a=.ok x a:=by show Res.of (Option.bind ((a.σ[i]?).bind dv) _)=_;rw[b];exact WG (β:=Nat) c e d a
theorem gJ{L:List ζ}{x:ζ}{k:Int}(b:L=xs++x::ys)(d:L.length<=sizeLine)(c:k=xs.length)(a:aD):yP (.list L) (.int k) a=.ok x a:=WG (β:=Nat) b d c a
theorem mq{A:List Int}(h:L=A++x::C):zs L=zs A++.int x::zs C:=by subst h;exact eM ..
section
variable {pre A:List Int}{t:List Ξ}
theorem P8(g:k3 b pre gap post)(h:pre++post=A++x::C){s:Int}(c:s=A.length):bw 4 "code" [.ref 1,.int s] (aQ u b t)=.ok (.int x) ⟨[],aQ u b t⟩:=by
 refine Θ λf=>?_;have d:=g.b9;have i:=g.ge;have hz:(zs b.cells).length<=sizeLine:=by rw[aZ];exact g.jx
 rcases CH h with⟨Z,q,e⟩|⟨z,Z,q,e⟩
 ·have l:=congrArg length q;rw[Δ]at l;refine f ?_;refine π AZ [.F<|f5 (p:=s<b.b9)<|fB 0x10ae1012e921008eb1118eb00 [_,_,_] [_,_] ι c d l,.w 2<|LI (xs:=zs<|pre++(gap++Z)) (x:=.int x) (ys:=zs C) (k:=s-b.b9+b.ge) (mq (by rw[g.cells,e];simp only[bp])) hz (by rw[aZ,Δ,Δ];exact(oJ 0x108eb9932192a1002e931008e9b2b1218eb1108eb00 [_,_,_,_] [_,_,_] ι c d i l))]
 ·cases e;have l:=congrArg length q;rw[Δ,length_cons]at l;refine f ?_;refine π AZ [.T<|e2 (p:=s<b.b9)<|fB 0x107e1012e9911820118eb1108eb00 [_,_,_] [_,_] ι c d l,.w 2<|LI (ys:=zs<|Z++(gap++post)) (k:=s) (mq (by rw[g.cells,q,bp];rfl)) hz (by rw[aZ];exact c)]
inductive Ca(b:cG)(b9:Int)(A C:List Int)(P:List Int->Prop)(x:Res ζ)(p:ζ)(u:ζ)(t:List Ξ):Prop
 |mk (M:List Int) (G:Int) (gap:List Int):k3 {b with cells:=M,b9:=b9,ge:=G} A gap C->P gap->x=.ok p ⟨[],aQ u {b with cells:=M,b9:=b9,ge:=G} t⟩->Ca b b9 A C P x p u t
theorem yj(g:k3 b pre gap post)(h:pre++post=A++C){n:Int}(i:n=A.length):Ca b n A C (·.length=gap.length) (bw 4 "move_gap" [.ref 1,.int n]<|aQ u b t) .none u t:=by
 refine Θ λo=>?_;have c:=g.b9;have f:=g.ge;have k:=g.c5;have m:=g.len;have w:=g.S5;rcases CH h with⟨D,q,d⟩|⟨z,D,q,d⟩
 ·have l:=congrArg length q;have j:=congrArg length d;rw[Δ]at l j;refine o ?_;refine⟨pre++(D++(gap++D).drop D.length++C),b.ge+D.length,(gap++D).drop D.length,⟨by rw[q];simp only[bp],i,?_,?_⟩,?_,?_⟩
  ·rw[length_drop,Δ];show b.ge+_=_;exact(fB 0x108e9b4b29b3012e93193412e930208e9b1b00 [_,_,_,_,_] [_] ι f l<|Nat.sub_add_cancel<|eB 0x100e9010 [_,_] ι)
  ·simp only[Δ,length_drop];exact(nB 0x100e40000868995964102e94294612e954312e99321000e400008680 [_,_,_,_,_,_,_] ι k m j<|Nat.sub_add_cancel<|eB 0x100e9010 [_,_] ι)
  ·rw[length_drop,Δ];exact(aV 0x102e2002e912910 [_,_,_] ι<|Nat.sub_add_cancel<|eB 0x100e9010 [_,_] ι)
  ·have hz:D.length<=sizeLine:=bb<|hB 0x100e80001068412e954312e99321000e400008680 [_,_,_,_,_,_] ι k m j
   refine π q4 [.F<|f5 (p:=n<b.b9)<|fB 0x10ae1012e921008eb1118eb00 [_,_,_] [_,_] ι i c l,
    .w 2 (ur (A:=pre++gap) (B:=D) (C:=C) (s:=b.ge) (e:=b.ge+n-b.b9) (by rw[g.cells,d];simp only[bp]) g.jx (by rw[Δ];exact(bP 0x108eb910008e9b1b00 [_,_] [_] ι f)) (by rw[Δ];exact(oJ 0x108e9b3b921a190202e931008e9b2b1218eb1108eb00 [_,_,_,_] [_,_,_] ι i c f l))),
    .v (lenZ hz),
    .U 2 (DJ (L:=b.cells) (B:=(gap++D).take D.length) (M:=D) (N:=pre++(D++(gap++D).drop D.length++C)) (e:=b.b9+D.length) (by rw[g.cells,d,←bp (List.take ..),take_append_drop,bp gap]) (by simp only[bp]) (by lia) c (by rw[length_take,Δ,Nat.min_eq_left<|le_add_left _ _];exact(bP 0x108e9b1b09b1008eb00 [_,_] [_] ι c))),
    .v (lenZ hz)]
 ·have l:=congrArg length q;rw[Δ]at l;have j:(z::D).length<=(z::D++gap).length:=by rw[Δ];exact le_add_right _ _
  generalize v:z::D=E at q d l j;have r:0<E.length:=by rw[←v];exact succ_pos _
  refine o ⟨A++((E++gap).take gap.length++(E++post)),b.ge-E.length,(E++gap).take gap.length,⟨by rw[d],i,?_,?_⟩,?_,?_⟩
  ·rw[length_take,Δ,Nat.min_eq_left<|le_add_left _ _];show b.ge-_=_;exact(cP 0x108e9b1b2ab3002e932008e9b1b00 [_,_,_,_] [_] ι f l)
  ·simp only[Δ,length_take];exact(nB 0x100e40000868999356402e2612e954112e99321000e400008680 [_,_,_,_,_,_,_] ι k m l<|Nat.min_eq_left<|eB 0x100e9010 [_,_] ι)
  ·rw[length_take,Δ];exact(aV 0x102e1002e10 [_,_] ι<|Nat.min_eq_left<|eB 0x100e9010 [_,_] ι)
  ·have hz:E.length<=sizeLine:=bb<|hB 0x100e80001068512e954112e99321000e400008680 [_,_,_,_,_,_] ι k m l
   refine π q4 [.T<|e2 (p:=n<b.b9)<|oJ 0x127e3e8381001e20832e3e838920138e3e838b1128e3e838b00 [_,_,_] [_,_] ι i c l r,
    .w 2 (ur (C:=gap++post) (e:=b.b9) (by rw[g.cells,q];simp only[bp]) g.jx i<|cP 0x108e9b2b1002e921008eb00 [_,_,_] [_] ι c l),
    .v (lenZ hz),
    .U 2 (DJ (L:=b.cells) (A:=A++(E++gap).take gap.length) (C:=post) (M:=E) (N:=A++((E++gap).take gap.length++(E++post))) (s:=b.ge-E.length) (e:=b.ge) (by rw[g.cells,q,bp,bp,←bp (List.take ..),take_append_drop,bp]) (by simp only[bp]) (by lia) (by rw[Δ,length_take,Δ,Nat.min_eq_left<|le_add_left _ _];exact(cP 0x108eb912ab3002e932008e9b1b00 [_,_,_,_] [_] ι f l)) (by rw[Δ,length_take,length_drop,Δ,Nat.min_eq_left<|le_add_left _ _];exact(fB 0x108e9b4b912012e91391402e932008e9b1b00 [_,_,_,_,_] [_] ι f l<|Nat.sub_add_cancel<|eB 0x100e9010 [_,_] ι))),
    .v (lenZ hz)]
theorem M0(g:k3 b pre gap post){n:Int}{m:Nat}(f:n=m)(h:pre.length+post.length+m<=4194304):Ca b b.b9 pre post (m<=·.length) (bw 4 "widen_gap" [.ref 1,.int n]<|aQ u b t) .none u t:=by
 refine Θ λi=>?_;have c:=g.b9;have d:=g.ge;have j:=g.c5;have o:=g.len;have l:=g.S5;by_cases q:m<=gap.length
 ·exact i ⟨b.cells,b.ge,gap,g,q,π o7 [.F<|f5 (p:=n-(b.ge-b.b9)>0)<|oJ 0x10aeaa1200800e2018e9b2b1208eb1108eb00 [_,_,_] [_,_,_] ι f c d q]⟩
 ·obtain⟨k,rfl⟩:=Nat.le.dest<|Nat.le_of_not_le q;refine i ⟨pre++gap++(List.replicate (k+8) 0++post),b.ge+(n-(b.ge-b.b9))+8,gap++List.replicate (k+8) 0,⟨by simp only[bp],c,?_,?_⟩,?_,?_⟩
  ·rw[Δ,length_replicate];show b.ge+_+_=_;exact(cP 0x108e9b9981821b098189aa021208eb921108eb00 [_,_,_] [_,_,_] ι c f)
  ·simp only[Δ,length_replicate];exact(aV 0x100e400008689919818392000e400000689932910 [_,_,_,_] ι h)
  ·rw[Δ,length_replicate];exact(eB 0x100e9981810910 [_,_] ι)
  ·refine π o7 [.T<|e2 (p:=n-(b.ge-b.b9)>0)<|oJ 0x127e3e838aa0120803e192138e3e838b921228e3e8389b1b0138e3e838b00 [_,_,_] [_,_,_] ι c d f q,
    .v (agc (x:=0) (n:=n-(b.ge-b.b9)+8) (m:=k+8) (fB 0x108eb981829818aa01208eb921218e9b1b0108eb00 [_,_,_] [_,_,_] ι c d f)<|bb<|aV 0x100e800010689818300e400000689932910 [_,_,_,_] ι h),
    .U 2 (DJ (L:=b.cells) (B:=[]) (N:=pre++gap++(List.replicate (k+8) 0++post)) (s:=b.ge) (e:=b.ge) (by rw[g.cells];simp only[bp,nil_append]) rfl (bb (by rw[length_replicate];exact(ck 0x100e80001068998184000e40000068994392100e400008680 [_,_,_,_,_] ι j h))) (by rw[Δ];exact(bP 0x108eb910008e9b1b00 [_,_] [_] ι d)) (by rw[Δ];exact d.trans (Int.add_zero _).symm))]
end
section
variable {pre A D:List Int}{t:List Ξ}
inductive OB(b:cG)(A C:List Int)(x:Res ζ)(p:ζ)(u:ζ)(t:List Ξ):Prop
 |mk (M:List Int) (G b9:Int) (gap:List Int):k3 {b with cells:=M,b9:=b9,ge:=G} A gap C->x=.ok p ⟨[],aQ u {b with cells:=M,b9:=b9,ge:=G} t⟩->OB b A C x p u t
theorem yi(g:k3 b pre gap post)(h:pre++post=A++C){n:Int}(k:n=A.length)(i:(A++C).length+D.length<=4194304):OB b (A++D) C (bw 4 "insert" [.ref 1,.int n,.list<|zs D]<|aQ u b t) .none u t:=by
 refine Θ λv=>?_;have l:=bb (Nat.le_trans (le_add_left _ _)<|Nat.le_trans i<|by decide);obtain⟨M,G,w,r,j,s⟩:=M0 (u:=u) (t:=t) g rfl (by rw[←h,Δ]at i;exact i);obtain⟨x,m,f,c,q,o⟩:=yj (u:=u) (t:=t) r h k;rw[←q]at j;have p:(f.take D.length).length=D.length:=by rw[length_take];exact Nat.min_eq_left j
 refine v ⟨A++(D++(f.drop D.length++C)),m,n+D.length,f.drop D.length,⟨by rw[bp],?_,?_,?_⟩,?_⟩
 ·rw[Δ,k];rfl
 ·rw[Δ,length_drop];have:=c.ge;show m=_;have:m=_:=this;exact(cP 0x108e9b2b930012e193208e9b1b00 [_,_,_,_] [_] ι ‹_›<|Nat.sub_add_cancel<|aV 0x100e1000e10 [_,_] ι j)
 ·refine Nat.le_trans (Nat.le_of_eq ?_) c.c5;have:=c.len;simp only[Δ,length_drop]at this⊢;exact(ck 0x102e0999345102e295412e993210 [_,_,_,_,_,_] ι this<|Nat.sub_add_cancel<|aV 0x100e1000e10 [_,_] ι j)
 ·refine π EH [.v<|lenZ l,.c s,.c o,.v<|lenZ l,
   .U 2 (DJ (N:=A++(D++(f.drop D.length++C))) (e:=n+D.length) (by rw[←bp (List.take ..),take_append_drop];exact c.cells) rfl (bb<|add_le_add (d:=4194312) c.c5<|Nat.le_trans (le_add_left _ _)<|Nat.le_trans i<|by decide) k<|by rw[p,k]),
   .v (lenZ l)]
theorem IP(g:k3 b pre gap post)(h:pre++post=A++(B++C)){s e:Int}(c:s=A.length)(f:e=A.length+B.length):Ca b s A C (λW=>True) (bw 4 "delete" [.ref 1,.int s,.int e]<|aQ u b t) (.list<|zs B) u t:=by
 refine Θ λx=>?_;have k:=g.b9;have D:=g.ge;have o:=Bi (u:=u) (t:=t) g h c f;have κ:=h.trans (bp ..).symm;by_cases q:e<b.b9
 ·obtain⟨M,G,j,d,z,w⟩:=yj (u:=u) (t:=t) g κ (n:=e) (by rw[Δ];exact f);refine x ?_;refine⟨M,G+e-e,B++j,⟨by show M=_;rw[show M=_ from d.cells];simp only[bp],c,?_,d.c5⟩,trivial,π o6 [.c o,.T<|e2 q,.c w,.F<|f5 (p:=s>e)<|cP 0x10ae0118e9b1b0108eb00 [_,_] [_,_] ι c f]⟩;have:=d.ge;have:G=_:=this;show G+e-e=_;rw[Δ]at this⊢;exact(bP 0x108e9b921b0a191008e9b2b9100 [_,_,_] [_,_] ι this)
 ·by_cases r:s>b.b9
  ·obtain⟨M,G,j,d,z,w⟩:=yj (u:=u) (t:=t) g h c;refine x ?_;refine⟨M,G+e-s,j++B,⟨by show M=_;rw[show M=_ from d.cells];simp only[bp],c,?_,d.c5⟩,trivial,π o6 [.c o,.F<|f5 q,.T<|e2 r,.c w]⟩;have:=d.ge;have:G=_:=this;show G+e-s=_;rw[Δ];exact(fB 0x108e9b912b0a091208e9b2b0208e9b1b0118eb00 [_,_,_] [_,_,_] ι c f ‹_›)
  ·have l:=congrArg length h
   obtain⟨X,Y,rfl,rfl,rfl⟩:∃X Y,pre=A++X/\B=X++Y/\post=Y++C:=by
    rcases List.append_eq_append_iff.mp h with⟨Z,u,v⟩|⟨Z,u,v⟩
    ·have:=congrArg length u;rw[Δ]at this;have hz:=eq_nil_of_length_eq_zero<|Nat.le_antisymm (oJ 0x100e08212e92100ae0108eb1118eb00 [_,_,_] [_,_] ι c k r this)<|eB 0x100e008 [_] ι;subst hz;exact⟨[],B,by rw[u,append_nil,append_nil],rfl,v⟩
    ·rcases List.append_eq_append_iff.mp v with⟨Y,i,m⟩|⟨Y,i,m⟩
     ·have y:Y=[]:=eq_nil_of_length_eq_zero (by have:=congrArg length i;have:=congrArg length u;simp only[Δ]at*;exact(Nat.le_antisymm (OF 0x100e08412e930212e94130ae1018eb2108e9b1b00 [_,_,_,_,_] [_,_] ι f k q ‹_› this)<|eB 0x100e008 [_] ι))
      subst y;exact⟨Z,[],u,by rw[i,append_nil,append_nil],m.symm⟩
     ·exact⟨Z,Y,u,i,m⟩
   refine x ?_;refine⟨b.cells,b.ge+e-b.b9,X++(gap++Y),⟨by show b.cells=_;rw[g.cells];simp only[bp],c,?_,g.c5⟩,trivial,π o6 [.c o,.F<|f5 q,.F<|f5 r]⟩;simp only[Δ]at*;exact(fB 0x108e9b99321b0a092108e9b931b0208e9b2b910118eb9100 [_,_,_,_] [_,_,_] ι k D f)
end
inductive Kv(b:cG)(T:List Int):Prop
 |mk (pre gap post:_):k3 b pre gap post->pre++post=T->Kv b T
structure gN(b:cG)(T:List Int)(p:Int):Prop where
 gap:Kv b T
 len:T.length<=4194304
 fJ:b.fJ=T.length+1
 pt:b.pt=p
 tk:0<b.tk
variable {T:List Int}
section
variable {A:List Int}{p:Int}
theorem fS(u:ζ)(t:List Ξ)(c:gN b T p):bw 7 "size" [.ref 0] (aQ u b t)=.ok (.int T.length) ⟨[],aQ u b t⟩:=by
 refine Θ λd=>?_;obtain⟨pre,gap,post,g,e⟩:=c.gap;have q:(b.cells.length:Int)-b.ge+b.b9=T.length:=by have:=g.len;have:=g.b9;have:=g.ge;rw[←e,Δ];exact(fB 0x108eb93190a1b018e9b2b1108eb1002e993210 [_,_,_,_] [_,_] ι ‹_› ‹_› this)
 have h:bw 4 "size" [.ref 1] (aQ u b t)=.ok (.int<|b.cells.length-b.ge+b.b9) ⟨[],aQ u b t⟩:=π Mu [.w 2<|UR g.jx];rw[q]at h;exact d<|π Mw [.c h]
theorem gE(u:ζ)(t:List Ξ)(c:gN b T p)(h:T=A++(B++C)){s e:Int}(d:s=A.length+1)(f:e=A.length+B.length+1):bw 7 "codes" [.ref 0,.int s,.int e] (aQ u b t)=.ok (.list<|zs B) ⟨[],aQ u b t⟩:=by obtain⟨pre,gap,post,g,q⟩:=c.gap;exact π HP [.c<|Bi (u:=u) (t:=t) g (q.trans h) (s:=s-1) (e:=e-1) (bP 0x108eb0a118008e9118b00 [_] [_] ι d)<|bP 0x108e9b1b0a118008e91189b1b00 [_,_] [_] ι f]
theorem o9(u:ζ)(t:List Ξ)(c:gN b T p)(h:T=A++x::C){s:Int}(d:s=A.length+1):bw 7 "code_at" [.ref 0,.int s] (aQ u b t)=.ok (.int x) ⟨[],aQ u b t⟩:=by refine Θ λe=>?_;obtain⟨pre,gap,post,g,q⟩:=c.gap;have l:=congrArg length h;have z:=c.fJ;rw[Δ,length_cons]at l;exact e<|π sz [.F<|f5 (p:=s<1)<|bP 0x10ae118018e9118b00 [_] [_] ι d,.F<|f5 (p:=s>=b.fJ)<|fB 0x109e0118e9118b1112e9911820108e9118b00 [_,_,_] [_,_] ι d l z,.k,.c<|P8 (u:=u) (t:=t) g (q.trans h)<|bP 0x108eb0a118008e9118b00 [_] [_] ι d]
theorem Pb(u:ζ)(b:cG)(t:List Ξ)(x:Int):bw 7 "goto" [.ref 0,.int x] (aQ u b t)=.ok (.int<|if b.fJ<(if 1>x then 1 else x)then b.fJ else(if 1>x then 1 else x)) ⟨[],aQ u {b with pt:=if b.fJ<(if 1>x then 1 else x)then b.fJ else(if 1>x then 1 else x)} t⟩:=π Mv []
theorem dS(u:ζ)(b:cG)(t:List Ξ):Λ "need_writable" [.ref 0] (aQ u b t)=.ok .none ⟨[],aQ u b t⟩:=π sC [.k]
theorem sQ(u:ζ)(t:List Ξ)(c:gN b T p){n:Int}(h:T.length+n<=4194304):Λ "need_room" [.ref 0,.int n] (aQ u b t)=.ok .none ⟨[],aQ u b t⟩:=π Aa [.c<|fS u t c,.F<|f5<|Int.not_lt.mpr h]
theorem MU(u:ζ)(b:cG)(t:List Ξ):bw 7 "touch" [.ref 0,.bool true] (aQ u b t)=.ok .none ⟨[],aQ u {b with tk:=b.tk+1,xQ:=b.tk+1} t⟩:=π HQ [.k]
theorem kV(u:ζ)(b:cG)(t:List Ξ)(x y:ζ):Λ "tell_ahead" [.ref 0,x,y] (aQ u b t)=.ok .none ⟨[],aQ u b t⟩:=π xG [.k]
theorem jg(u:ζ)(b:cG)(t:List Ξ)(x y z:ζ):Λ "tell_behind" [.ref 0,x,y,z] (aQ u b t)=.ok .none ⟨[],aQ u {b with tk:=b.tk+1,xQ:=b.tk+1} t⟩:=π wH [.c<|MU u b t,.k]
theorem sP(u:ζ)(b:cG)(t:List Ξ)(x y z:ζ):Λ "hung_in" [.ref 0,x,y,z] (aQ u b t)=.ok .none ⟨[],aQ u b t⟩:=π EI [.k,.k]
theorem x6(u:ζ)(b:cG)(t:List Ξ)(x y:ζ):Λ "hung_out" [.ref 0,x,y] (aQ u b t)=.ok .none ⟨[],aQ u b t⟩:=π Ct [.k,.k]
theorem n2(u:ζ)(b:cG)(t:List Ξ)(x y z:ζ):bw 5 "inserted" [.ref 3,x,y,z] (aQ u b t)=.ok .none ⟨[],aQ u b t⟩:=π z4 [.k]
theorem F8(u:ζ)(b:cG)(t:List Ξ)(x y:ζ):bw 5 "deleted" [.ref 3,x,y] (aQ u b t)=.ok .none ⟨[],aQ u b t⟩:=π Cq [.k]
theorem tj(u:ζ)(b:cG)(t:List Ξ)(x y z:ζ):bw 5 "replaced" [.ref 3,x,y,z] (aQ u b t)=.ok .none ⟨[],aQ u b t⟩:=π z5 [.k]
noncomputable def f3(x y:Int):Int:=if y<x then y else x
noncomputable def fm(x y:Int):Int:=if y>x then y else x
theorem rp{α:Type}{p:Prop}[Decidable p](P:α->Prop){a b:α}(c:p->P a)(d:¬p->P b):P<|if p then a else b:=by
 by_cases h:p
 ·exact if_pos h▸c h
 ·exact if_neg h▸d h
theorem Yv(x y:Int):f3 x y<=x:=rp (·<=x) Int.le_of_lt λz=>Int.le_refl x
theorem RT(x y:Int):x<=fm x y:=rp (x<=·) Int.le_of_lt λz=>Int.le_refl x
theorem DA(x y:Int):f3 x y<=fm x y:=Int.le_trans (Yv x y)<|RT x y
theorem LP(P:Int->Prop){x y:Int}(b:P x)(c:P y):P<|f3 x y:=rp P (λz=>c) λz=>b
theorem DB(P:Int->Prop){x y:Int}(b:P x)(c:P y):P<|fm x y:=rp P (λz=>c) λz=>b
theorem pl(u:ζ)(b:cG)(t:List Ξ)(c:1<=f3 x y)(d:fm x y<=b.fJ):Λ "reached" [.ref 0,.int x,.int y] (aQ u b t)=.ok (.tup [.int<|f3 x y,.int<|fm x y]) ⟨[],aQ u b t⟩:=π pb [.F<|f5<|Int.not_lt.mpr c,.F<|f5<|Int.not_lt.mpr d,.k]
theorem Af(u:ζ)(b:cG)(t:List Ξ)(h:¬(1<=f3 x y/\fm x y<=b.fJ)):Λ "reached" [.ref 0,.int x,.int y] (aQ u b t)=.err 3 ⟨[],aQ u b t⟩:=by
 by_cases c:f3 x y<1
 ·exact il pb [.T<|e2 c,.k]
 ·exact il pb [.F<|f5 c,.T<|e2<|Int.not_le.mp λq=>h ⟨Int.not_lt.mp c,q⟩,.k]
theorem SY{T:List Int}{i j:Nat}(h:i+j<=T.length):Ow (λA B C=>T=A++(B++C)) (λA B C=>A.length=i) λA B C=>B.length=j:=
 ⟨T.take i,(T.drop i).take j,(T.drop i).drop j,by rw[take_append_drop,take_append_drop],length_take_of_le<|Nat.le_trans (le_add_right _ _) h,length_take_of_le (by rw[length_drop];exact Nat.le_sub_of_add_le' h)⟩
theorem pO(h:0<=x):∃n:Nat,x=n:=⟨x.toNat,(toNat_of_nonneg h).symm⟩
inductive OV(T:List Int)(s e:Int):Prop
 |mk (A B C:List Int):T=A++(B++C)->s=A.length+1->e=A.length+B.length+1->OV T s e
theorem lM{T:List Int}{s e:Int}(k:1<=s)(l:s<=e)(f:e<=T.length+1):OV T s e:=by refine Θ λm=>?_;obtain⟨i,b⟩:=pO<|Int.sub_nonneg.mpr k;obtain⟨j,c⟩:=pO<|Int.sub_nonneg.mpr l;obtain⟨A,B,C,g,d,h⟩:=SY (i:=i) (j:=j)<|fB 0x100e092118eb2a1018eb1a118106e9118b00 [_,_,_] [_,_] ι f b c;exact m ⟨A,B,C,g,(cP 0x108e9118b1012e0108eb0a1180 [_,_] [_] ι b d),(oJ 0x108e91189b3b2112e1312e0208eb1a0108eb0a1180 [_,_,_,_] [_,_] ι b c d h)⟩
end
noncomputable def gU:ζ:=.tup [.str 8]
noncomputable def eR(s e:Int):ζ:=.tup [.str 9,.int s,.int e]
def ke(s:Int)(D:List Int)(q:Bool):ζ:=.tup [.str 10,.int s,.inst 10 [.list<|zs D,.list []],.bool q]
noncomputable def cb(R:List ζ)(t:List Ξ):List Ξ:=.obj 11 [some<|.ref 5]::.obj 9 [some<|.ref 6,some<|.int 0,some<|.bool true,some .none,some .none]::.lst R::t
abbrev aY(b:cG)(R:List ζ)(t:List Ξ):List Ξ:=aQ (.ref 4) b<|cb R t
theorem I5(h:x=y):(x==y)=true:=beq_iff_eq.mpr h
theorem hN(h:x≠y):(x==y)=false:=beq_false_of_ne h
theorem vt(n:Nat):gT (n+1) (-1)=some n:=by unfold gT;rw[if_neg (by decide),if_pos<|show-((n+1:Nat):Int)<=-1 from Int.neg_le_neg<|ofNat_le.mpr<|succ_le_succ<|zero_le n];exact congrArg some<|aV 0x102e1008e9b91181a11808b0 [_,_] ι<|toNat_of_nonneg<|eB 0x106e9b91180a1180808 [_] ι
theorem g6{i:Nat}{x:ζ}(c:(xs++[x]).length<=sizeLine)(a:aD)(b:a.σ[i]?=some (.lst<|xs++[x])):yP (.ref i) (.int<|-1) a=.ok x a:=by show Res.of (Option.bind ((a.σ[i]?).bind dv) _)=_;rw[b];show Res.of (if(xs++[x]).length<=sizeLine then(gT (xs++[x]).length<|-1).bind λj=>((xs++[x])[j]?).bind λx=>some (x,a)else none)=_;rw[if_pos c,Δ];show Res.of ((gT (xs.length+1)<|-1).bind _)=_;rw[vt];show Res.of (((xs++[x])[xs.length]?).bind _)=_;rw[LJ rfl];rfl
theorem SQ{i:Nat}{x v:ζ}(c:(xs++[x]).length<=sizeLine)(a:aD)(b:a.σ[i]?=some (.lst<|xs++[x])):LH v (.ref i) (.int<|-1) a=.ok .next ⟨a.ρ,a.σ.set i<|.lst<|xs++[v]⟩:=by show Res.of (Option.bind ((a.σ[i]?).bind dv) _)=_;rw[b];show Res.of (if(xs++[x]).length<=sizeLine then(gT (xs++[x]).length<|-1).bind λj=>some (aS.next,(⟨a.ρ,a.σ.set i<|.lst<|(xs++[x]).set j v⟩:aD))else none)=_;rw[if_pos c,Δ];show Res.of ((gT (xs.length+1)<|-1).bind _)=_;rw[vt];show Res.ok aS.next (⟨a.ρ,a.σ.set i<|.lst<|(xs++[x]).set xs.length v⟩:aD)=_;rw[List.set_append_right _ _<|Nat.le_refl _,Nat.sub_self];rfl
theorem iL{i:Nat}{L:List ζ}{v:ζ}(c:L.length<=sizeLine)(a:aD)(b:a.σ[i]?=some (.lst L)):Res.of (((a.σ[i]?).bind dv).bind λxs=>eN a i xs v)=.ok .none ⟨a.ρ,a.σ.set i<|.lst<|L++[v]⟩:=by rw[b];exact Res.d4 c
section
variable (b:cG)(t:List Ξ)
inductive oV:List ζ->Prop
 |nil:oV []
 |snoc (X:List ζ):oV (X++[gU])
inductive iH:ζ->Prop
 |ins (s e:Int):iH (eR s e)
 |del (s:Int) (D:List Int) (q:Bool):iH (ke s D q)
theorem Kk{R:List ζ}(h:oV R)(c:R.length<=sizeLine):bw 9 "is_at_boundary" [.ref 5] (aY b R t)=.ok (.bool true) ⟨[],aY b R t⟩:=by
 cases h with
 |nil=>exact π cZ [.k,.k]
 |snoc X=>exact π cZ [.w 6<|jn c rfl,.F<|hN (x:=(X++[gU]).length) (y:=0) (by rw[Δ];exact nofun),.w 6<|g6 c,.k]
theorem zU{X:List ζ}{r:ζ}(h:iH r)(c:(X++[r]).length<=sizeLine):bw 9 "is_at_boundary" [.ref 5] (aY b (X++[r]) t)=.ok (.bool false) ⟨[],aY b (X++[r]) t⟩:=by
 cases h with
 |ins s e=>exact π cZ [.w 6<|jn c rfl,.F<|hN (x:=(X++[eR s e]).length) (y:=0) (by rw[Δ];exact nofun),.w 6<|g6 c,.k]
 |del s D q=>exact π cZ [.w 6<|jn c rfl,.F<|hN (x:=(X++[ke s D q]).length) (y:=0) (by rw[Δ];exact nofun),.w 6<|g6 c,.k]
theorem N8{R:List ζ}(h:oV R)(c:R.length<=sizeLine):bw 9 "boundary" [.ref 5] (aY b R t)=.ok .none ⟨[],aY b R t⟩:=π jC [.c<|Kk b t h c,.k]
theorem Kl{X:List ζ}{r:ζ}(h:iH r)(c:(X++[r]).length<=sizeLine):bw 9 "boundary" [.ref 5] (aY b (X++[r]) t)=.ok .none ⟨[],aY b (X++[r]++[gU]) t⟩:=π jC [.c<|zU b t h c,.k,.u 6<|iL (v:=gU) c]
theorem nt{R:List ζ}{q:Bool}(h:bw 9 "is_at_boundary" [.ref 5] (aY b R t)=.ok (.bool q) ⟨[],aY b R t⟩)(s:Int):bw 9 "note_begin" [.ref 5,.int s,.bool true,.int 1] (aY b R t)=.ok .none ⟨[],aY b R t⟩:=by
 refine Θ λc=>?_
 have e:bw 9 "note_state" [.ref 5,.bool true,.int 1] (aY b R t)=.ok .none ⟨[],aY b R t⟩:=π wz [.k,.k]
 cases q with
 |true=>exact c<|π om [.c h,.c e,.k,.k,.k]
 |false=>exact c<|π om [.c h,.c e,.k,.k]
theorem kG(u:ζ)(h:1<b.tk):bw 7 "is_modified" [.ref 0] (aQ u b t)=.ok (.bool true) ⟨[],aQ u b t⟩:=by rw[←e2 h];exact π ua []
theorem Vs{R:List ζ}(h:oV R)(c:R.length<=sizeLine){s m p:Int}(e:m≠0):bw 9 "note_insert" [.ref 5,.int s,.int m,.int p,.bool true,.int 1] (aY b R t)=.ok .none ⟨[],aY b (R++[eR s<|s+m]) t⟩:=by
 refine Θ λf=>?_
 have d:=nt b t (Kk b t h c) s
 cases h with
 |nil=>exact f<|π fR [.k,.F<|hN e,.k,.c d,.k,.k,.k,.k,.k,.u 6<|iL (L:=[]) (v:=eR s<|s+m) c]
 |snoc X=>refine f ?_;exact π fR [.k,.F<|hN e,.k,.c d,.w 6<|jn c rfl,.T<|e2 (p:=((X++[gU]).length:Int)>0) (by rw[Δ];exact natCast_pos.mpr<|succ_pos _),.w 6<|g6 c,.k,.k,.k,.u 6<|iL (v:=eR s<|s+m) c]
theorem Hi{X:List ζ}{s':Int}{D:List Int}{q:Bool}(c:(X++[ke s' D q]).length<=sizeLine){s m p:Int}(d:m≠0):bw 9 "note_insert" [.ref 5,.int s,.int m,.int p,.bool true,.int 1] (aY b (X++[ke s' D q]) t)=.ok .none ⟨[],aY b (X++[ke s' D q]++[eR s<|s+m]) t⟩:=
 π fR [.k,.F<|hN d,.k,.c<|nt b t (zU b t (.del s' D q) c) s,.w 6<|jn c rfl,.T<|e2 (p:=((X++[ke s' D q]).length:Int)>0) (by rw[Δ];exact natCast_pos.mpr<|succ_pos _),.w 6<|g6 c,.k,.k,.k,.u 6<|iL (v:=eR s<|s+m) c]
theorem Hj{X:List ζ}{s' e':Int}(c:(X++[eR s' e']).length<=sizeLine){s m p:Int}(e:m≠0)(d:e'≠s):bw 9 "note_insert" [.ref 5,.int s,.int m,.int p,.bool true,.int 1] (aY b (X++[eR s' e']) t)=.ok .none ⟨[],aY b (X++[eR s' e']++[eR s<|s+m]) t⟩:=
 π fR [.k,.F<|hN e,.k,.c<|nt b t (zU b t (.ins s' e') c) s,.w 6<|jn c rfl,.T<|e2 (p:=((X++[eR s' e']).length:Int)>0) (by rw[Δ];exact natCast_pos.mpr<|succ_pos _),.w 6<|g6 c,.k,.k,.k,.F<|hN d,.k,.u 6<|iL (v:=eR s<|s+m) c]
theorem Km{X:List ζ}{s' e':Int}(c:(X++[eR s' e']).length<=sizeLine){m p:Int}(d:m≠0):bw 9 "note_insert" [.ref 5,.int e',.int m,.int p,.bool true,.int 1] (aY b (X++[eR s' e']) t)=.ok .none ⟨[],aY b (X++[eR s'<|e'+m]) t⟩:=
 π fR [.k,.F<|hN d,.k,.c<|nt b t (zU b t (.ins s' e') c) e',.w 6<|jn c rfl,.T<|e2 (p:=((X++[eR s' e']).length:Int)>0) (by rw[Δ];exact natCast_pos.mpr<|succ_pos _),.w 6<|g6 c,.k,.k,.k,.T<|I5 (x:=e') rfl,.k,.k,.U 6<|SQ (v:=eR s'<|e'+m) c]
theorem Vr{R:List ζ}{q:Bool}(h:bw 9 "is_at_boundary" [.ref 5] (aY b R t)=.ok (.bool q) ⟨[],aY b R t⟩)(f:R.length<=sizeLine){D:List Int}(d:D≠[])(c:D.length<=sizeLine)(s p:Int):bw 9 "note_delete" [.ref 5,.int s,.inst 10 [.list<|zs D,.list []],.int p,.list [],.bool true,.int 1] (aY b R t)=.ok .none ⟨[],aY b (R++[ke s D<|p==s+D.length]) t⟩:=π uc [.k,.v<|lenZ c,.F<|hN (x:=D.length) λe=>d<|eq_nil_of_length_eq_zero<|Int.ofNat.inj e,.k,.c<|nt b t h s,.k,.v<|lenZ c,.u 6<|iL (v:=ke s D<|p==s+D.length) f]
end
def cN(σ:List Ξ):Prop:=∀m∈σ,∀b,m≠.obj 0 b
theorem cN.nil:cN []:=λx h=>nomatch h
theorem cN.lst(h:cN σ):cN<|.lst xs::σ:=λm q=>by
 cases q with
 |head=>exact nofun
 |tail _ q=>exact h m q
theorem cN.obj{b:List<|Option ζ}(h:cN σ):cN<|.obj (c+1) b::σ:=λm q=>by
 cases q with
 |head=>exact nofun
 |tail _ q=>exact h m q
variable {R:List ζ}
theorem cN.dE{t:List Ξ}(h:cN t):cN<|aY b R t:=.obj<|.obj<|.lst<|.obj<|.obj<|.obj<|.lst h
theorem aN.zs(L:List Int):aN<|.list<|zs L:=.list λx h=>by obtain⟨i,_,rfl⟩:=List.mem_map.mp h;exact .int i
theorem qs{α:Type}{j:Nat}{i:α}(e:([]:List α)[j]?=some i):P:=nomatch getElem?_nil.symm.trans e
theorem ae3(h0:cN σ)(h:con ps []=.ok p ⟨[],τ⟩)(k:∀x∈ps,aN x)(d:jJ [] τ p q):c3 dU con ps σ=.ok q ⟨[],σ⟩:=
 jR (.ok ⟨rfl,λi x y b f=>by cases b.symm.trans f;exact .data<|k x<|List.mem_of_getElem? b⟩ ⟨rfl,.nil,λj i e=>qs e,λi c g e q=>by cases q;exact h0 _ (List.mem_of_getElem? e) g rfl⟩ h d ⟨rfl,λz z=>rfl,λj i e=>qs e⟩)
theorem mY(e:∀x∈xs,aN x):jJ [] [.obj c<|xs.map some] (.ref 0)<|.inst c xs:=.obj rfl rfl rfl λi x y b d=>by cases b.symm.trans d;exact .old<|.data<|e x<|List.mem_of_getElem? b
theorem kZ(h:ci (.ref σ.length::ps) (σ++[newObj c])=.ok .none ⟨[],σ'⟩):gW c ci ps σ=.ok (.ref σ.length) ⟨[],σ'⟩:=by unfold gW;rw[h];rfl
theorem data2{x y:ζ}(b:aN x)(c:aN y):∀z∈[x,y],aN z:=λz q=>by
 cases q with
 |head=>exact b
 |tail _ q=>cases q with
  |head=>exact c
  |tail _ q=>cases q
theorem cX:∀x∈([]:List ζ),aN x:=λy h=>nomatch h
theorem BH{σ:List Ξ}(h:cN σ)(D:List Int):fW 10 [.list<|zs D,.list []] σ=.ok (.inst 10 [.list<|zs D,.list []]) ⟨[],σ⟩:=by have d:=data2 (aN.zs D)<|aN.list cX;rw[YB];exact ae3 h (kZ<|b1 (h:=[]) (by kernel_rfl) nofun) d<|mY d
inductive Ey:ζ->List Int->List Int->Prop
 |ins {A B C:List Int} {s e:Int} (dc:B≠[]) (ο:(A++C).length<=4194304) (η:s=A.length+1) (μ:e=A.length+B.length+1):Ey (eR s e) (A++(B++C)) (A++C)
 |del {A B C:List Int} {s:Int} (q:Bool) (dc:B≠[]) (ο:(A++(B++C)).length<=4194304) (η:s=A.length+1):Ey (ke s B q) (A++C) (A++(B++C))
theorem Ey.row{r:ζ}{bN:List Int}(h:Ey r T bN):iH r:=by
 cases h with
 |ins=>exact .ins ..
 |del=>exact .del ..
inductive k8:List ζ->List Int->List Int->Prop
 |nil (T:List Int):k8 [] T T
 |snoc {G:List ζ} {r:ζ} {T bN T0:List Int}:k8 G bN T0->Ey r T bN->k8 (G++[r]) T T0
structure W(aF:List ζ)(T0:List Int)(l n:Nat)(b:cG)(R:List ζ)(T:List Int)(p:Int):Prop where
 cr:gN b T p
 tk:1<b.tk
 bd:oV aF
 dat:∀r∈aF,aN r
 oI:∃G,R=aF++G/\k8 G T T0
 c5:R.length<=n
 lo:l<=R.length
inductive xx(X:cG->List ζ->Prop)(aF:List ζ)(T0:List Int)(l n:Nat)(T:List Int)(p:Int):Prop
 |mk (b R:_):X b R->W aF T0 l n b R T p->xx X aF T0 l n T p
variable {aF:List ζ}{T0:List Int}
section
variable {A D:List Int}{l:Nat}{p:Int}
theorem ll{R:List ζ}(h:R.length<=n)(b:n<=4000000):R.length<=sizeLine:=bb (Nat.le_trans h<|Nat.le_trans b<|by decide)
theorem VB(t:List Ξ)(w:W aF T0 l n b R (A++C) p)(v:n<=4000000)(g:D≠[]){s m:Int}(d:s=A.length+1)(i:m=D.length)(x:Int):∃R',bw 9 "note_insert" [.ref 5,.int s,.int m,.int x,.bool true,.int 1] (aY b R t)=.ok .none ⟨[],aY b R' t⟩/\(∃G,R'=aF++G/\k8 G (A++(D++C)) T0)/\R'.length<=n+1/\l<=R'.length:=by
 refine Θ λo=>?_
 have c:=ll w.c5 v
 have f:m≠0:=λq=>g<|eq_nil_of_length_eq_zero<|Int.ofNat.inj<|i.symm.trans q
 have e:∀r,(R++[r]).length<=n+1/\l<=(R++[r]).length:=λr=>by rw[Δ];exact⟨Nat.add_le_add_right w.c5 1,le_succ_of_le w.lo⟩
 obtain⟨G,rfl,h⟩:=w.oI
 cases h with
 |nil=>refine o ?_;rw[append_nil]at e c⊢;exact⟨_,Vs b t w.bd c f,⟨_,rfl,.snoc (.nil _)<|.ins g w.cr.len d<|cP 0x108e91189b1b091008eb1108e9118b00 [_,_] [_,_] ι d i⟩,e _⟩
 |@snoc G r _ bN _ h j=>
  refine o ?_
  rw[←bp]at e c⊢
  refine Θ λk=>?_
  have out:∃u,aF++G++[r]++[eR s<|s+m]=aF++u/\k8 u (A++(D++C)) T0:=⟨G++[r]++[eR s<|s+m],by simp only[bp],.snoc (.snoc h j)<|.ins g w.cr.len d<|cP 0x108e91189b1b091008eb1108e9118b00 [_,_] [_,_] ι d i⟩
  generalize F:A++C=T at j
  clear v o g
  cases j with
  |del=>exact k ⟨_,Hi b t c f,out,e _⟩
  |@ins A' B K s' e' H I J E=>
   by_cases q:e'=s
   ·have y:A.length=(A'++B).length:=by rw[Δ];exact(fB 0x102e921018e0108e91189b2b1118e9118b00 [_,_,_] [_,_] ι d E q)
    obtain⟨rfl,rfl⟩:=List.append_inj (F.trans (bp ..).symm) y;subst q;refine k ?_;refine⟨_,Km b t c f,⟨G++[eR s'<|e'+m],by rw[bp],.snoc h ?_⟩,le_succ_of_le (by have wf:=w.c5;rw[←bp,Δ]at wf;rw[Δ];exact wf),by have wf:=w.lo;rw[←bp,Δ]at wf;rw[Δ];exact wf⟩;rw[bp,←bp B];exact .ins (λz=>H (append_eq_nil_iff.mp z).1) I J (by rw[Δ]at y⊢;exact(cP 0x108e91189b902b190108e91189b2b1108eb00 [_,_,_] [_,_] ι i E))
   ·exact k ⟨_,Hj b t c f q,out,e _⟩
theorem W.at(t:List Ξ)(w:W aF T0 l n b R T p)(f:n<=4000000):∃q,bw 9 "is_at_boundary" [.ref 5] (aY b R t)=.ok (.bool q) ⟨[],aY b R t⟩:=by
 refine Θ λd=>?_
 obtain⟨G,rfl,g⟩:=w.oI
 have c:=ll w.c5 f
 cases g with
 |nil=>refine d ?_;rw[append_nil]at c⊢;exact⟨_,Kk b t w.bd c⟩
 |snoc _ e=>refine d ?_;rw[←bp]at c⊢;exact⟨_,zU b t e.row c⟩
theorem pq(t:List Ξ)(w:W aF T0 l n b R (A++C) p)(x:n<=4000000)(y:D≠[])(e:(A++C).length+D.length<=4194304){s:Int}(i:s=A.length+1):xx (λb' R'=>Λ "text_in" [.ref 0,.int s,.list<|zs D] (aY b R t)=.ok .none ⟨[],aY b' R' t⟩) aF T0 l (n+1) (A++(D++C))<|if p>s then p+D.length else p:=by
 refine Θ λr=>?_;obtain⟨R',o,k,m,h⟩:=VB t w x y i rfl b.pt;have hz:=bb<|Nat.le_trans (le_add_left _ _)<|Nat.le_trans e<|of_decide_eq_true rfl;obtain⟨pre,gap,post,g,v⟩:=w.cr.gap;obtain⟨M,G,b9,z,c,j⟩:=yi (u:=.ref 4) (t:=cb R' t) g v (n:=s-1) (bP 0x108eb0a118008e9118b00 [_] [_] ι i) e;have f:b.fJ+D.length=(A++(D++C)).length+1:=by rw[w.cr.fJ];simp only[Δ];exact(eB 0x108e9118b991209b29118b910 [_,_,_] ι)
 have d:(A++(D++C)).length<=4194304:=by simp only[Δ]at e⊢;exact(aV 0x100e400000689912000e4000006892910 [_,_,_] ι e)
 by_cases q:b.pt>s
 ·refine r ⟨⟨M,b9,G,b.pt+D.length,b.fJ+D.length,b.tk,b.xQ⟩,R',π pe [.k,.v<|lenZ hz,.c (π (ps:=[.ref 4,.ref 0,.int s,.int D.length]) (σ:=aY b R t) mQ [.c<|kG b (cb R t) (.ref 4) w.tk,.c o] (σ':=aY b R' t) (p:=.none)<|by kernel_rfl),.c j,.v<|lenZ hz,.T<|e2 q,.v<|lenZ hz],⟨⟨_,_,_,⟨c.cells,c.b9,c.ge,c.c5⟩,bp ..⟩,d,f,?_,w.cr.tk⟩,w.tk,w.bd,w.dat,k,m,h⟩;rw[←w.cr.pt,if_pos q]
 ·refine r ⟨⟨M,b9,G,b.pt,b.fJ+D.length,b.tk,b.xQ⟩,R',π pe [.k,.v<|lenZ hz,.c (π (ps:=[.ref 4,.ref 0,.int s,.int D.length]) (σ:=aY b R t) mQ [.c<|kG b (cb R t) (.ref 4) w.tk,.c o] (σ':=aY b R' t) (p:=.none)<|by kernel_rfl),.c j,.v<|lenZ hz,.F<|f5 q],⟨⟨_,_,_,⟨c.cells,c.b9,c.ge,c.c5⟩,bp ..⟩,d,f,?_,w.cr.tk⟩,w.tk,w.bd,w.dat,k,m,h⟩;rw[←w.cr.pt,if_neg q]
theorem nP{t:List Ξ}(h0:cN t)(w:W aF T0 l n b R (A++(B++C)) p)(j:n<=4000000)(y:B≠[]){s e:Int}(d:s=A.length+1)(i:e=A.length+B.length+1):xx (λb' R'=>Λ "text_out" [.ref 0,.int s,.int e] (aY b R t)=.ok (.list<|zs B) ⟨[],aY b' R' t⟩) aF T0 l (n+1) (A++C)<|if p>s then fm s (p-(e-s))else p:=by
 refine Θ λk=>?_;have E:=ll w.c5 j;obtain⟨F,z⟩:=w.at t j;obtain⟨pre,gap,post,g,v⟩:=w.cr.gap;have h:=Vr b t z E y (bb<|Nat.le_trans (Nat.le_trans (by simp only[Δ];exact(eB 0x100e992010 [_,_,_] ι)) w.cr.len)<|of_decide_eq_true rfl) s b.pt;generalize H:ke s B (b.pt==s+B.length)=r at h;have f:∃G,R++[r]=aF++G/\k8 G (A++C) T0:=by clear post v gap z E g h;clear k F j pre;obtain⟨G,rfl,f⟩:=w.oI;exact⟨G++[r],by rw[bp],.snoc f<|H▸.del _ y w.cr.len d⟩
 have D:(R++[r]).length<=n+1:=by rw[Δ];exact Nat.add_le_add_right w.c5 1
 have o:l<=(R++[r]).length:=by rw[Δ];exact le_succ_of_le w.lo
 obtain⟨M,G,I,c,_,x⟩:=IP (u:=.ref 4) (t:=cb (R++[r]) t) g v (s:=s-1) (e:=e-1) (bP 0x108eb0a118008e9118b00 [_] [_] ι d)<|bP 0x108e9b1b0a118008e91189b1b00 [_,_] [_] ι i;have m:b.fJ-(e-s)=(A++C).length+1:=by rw[w.cr.fJ];simp only[Δ];exact(cP 0x108e9118b920aa019118b9921018e91189b1b0108e9118b00 [_,_,_] [_,_] ι d i)
 by_cases q:b.pt>s
 ·refine k ?_;refine⟨⟨M,s-1,G,fm s<|b.pt-(e-s),b.fJ-(e-s),b.tk,b.xQ⟩,R++[r],π sE [.k,.c (π (ps:=[.ref 4,.ref 0,.int s,.int e]) (σ:=aY b R t) oj [.k,.k,.k,.k,.c<|gE (.ref 4) (cb R t) w.cr rfl d i,.c<|BH (h0.dE (b:=b) (R:=R)) B,.c<|kG b (cb R t) (.ref 4) w.tk,.c h] (σ':=aY b (R++[r]) t) (p:=.none)<|by kernel_rfl),.c x,.T<|e2 q],⟨⟨_,_,_,⟨c.cells,c.b9,c.ge,c.c5⟩,rfl⟩,(by have:=w.cr.len;simp only[Δ]at this⊢;exact(aV 0x100e4000006892000e4000006899210 [_,_,_] ι this)),m,?_,w.cr.tk⟩,w.tk,w.bd,w.dat,f,D,o⟩;rw[←w.cr.pt,if_pos q]
 ·refine k ?_;refine⟨⟨M,s-1,G,b.pt,b.fJ-(e-s),b.tk,b.xQ⟩,R++[r],π sE [.k,.c (π (ps:=[.ref 4,.ref 0,.int s,.int e]) (σ:=aY b R t) oj [.k,.k,.k,.k,.c<|gE (.ref 4) (cb R t) w.cr rfl d i,.c<|BH (h0.dE (b:=b) (R:=R)) B,.c<|kG b (cb R t) (.ref 4) w.tk,.c h] (σ':=aY b (R++[r]) t) (p:=.none)<|by kernel_rfl),.c x,.F<|f5 q],⟨⟨_,_,_,⟨c.cells,c.b9,c.ge,c.c5⟩,rfl⟩,(by have:=w.cr.len;simp only[Δ]at this⊢;exact(aV 0x100e4000006892000e4000006899210 [_,_,_] ι this)),m,?_,w.cr.tk⟩,w.tk,w.bd,w.dat,f,D,o⟩;rw[←w.cr.pt,if_neg q]
end
set_option genCtorIdx false in
inductive Kr where
 |ok (v:ζ)
 |err (k:Nat)
noncomputable def Kr.res:Kr->List Ξ->Res ζ
 |.ok v,σ=>.ok v ⟨[],σ⟩
 |.err k,σ=>.err k ⟨[],σ⟩
def ef(con:List ζ->List Ξ->Res ζ)(ps:List ζ)(k:Nat)(T:List Int)(p:Int)(o:Kr)(bN:List Int)(c:Int):Prop:=∀aF T0 l n b R t,n+k<=4000000->cN t->W aF T0 l n b R T p->xx (λb' R'=>con ps (aY b R t)=o.res (aY b' R' t)) aF T0 l (n+k) bN c
section
variable {A D:List Int}{l:Nat}{p:Int}
theorem gN.at(c:gN b T p)(q:Int):gN {b with pt:=q} T q:=by obtain⟨pre,gap,post,g,e⟩:=c.gap;exact⟨⟨pre,gap,post,⟨g.cells,g.b9,g.ge,g.c5⟩,e⟩,c.len,c.fJ,rfl,c.tk⟩
theorem gN.tick(c:gN b T p):gN {b with tk:=b.tk+1,xQ:=b.tk+1} T p:=by obtain⟨pre,gap,post,g,e⟩:=c.gap;exact⟨⟨pre,gap,post,⟨g.cells,g.b9,g.ge,g.c5⟩,e⟩,c.len,c.fJ,c.pt,Int.lt_trans c.tk<|Int.lt_succ _⟩
theorem W.at_(w:W aF T0 l n b R T p)(q:Int):W aF T0 l n {b with pt:=q} R T q:=⟨w.cr.at q,w.tk,w.bd,w.dat,w.oI,w.c5,w.lo⟩
theorem W.tick(w:W aF T0 l n b R T p):W aF T0 l n {b with tk:=b.tk+1,xQ:=b.tk+1} R T p:=⟨w.cr.tick,Int.lt_trans w.tk<|Int.lt_succ _,w.bd,w.dat,w.oI,w.c5,w.lo⟩
theorem W.more(w:W aF T0 l n b R T p)(h:n<=k):W aF T0 l k b R T p:=⟨w.cr,w.tk,w.bd,w.dat,w.oI,Nat.le_trans w.c5 h,w.lo⟩
theorem NB(x:Int):f3 x x=x:=if_neg<|Int.lt_irrefl x
theorem NC(x:Int):fm x x=x:=if_neg<|Int.lt_irrefl x
theorem jF(h:x<=y):f3 x y=x:=if_neg<|Int.not_lt.mpr h
theorem jG(h:x<=y):fm x y=y:=rp (·=y) (λz=>rfl) λq=>Int.le_antisymm h<|Int.not_lt.mp q
theorem x7(x y:Bool)(g:D≠[])(d:(A++C).length+D.length<=4194304){s:Int}(c:s=A.length+1):ef (Λ "put_in_editing") [.ref 0,.int s,.list<|zs D,.bool x,.bool y] 1 (A++C) p (.ok .none) (A++(D++C))<|if y then s+D.length else if p>s then p+D.length else p:=λaF T0 l n b R t m h0 w=>by
 refine Θ λk=>?_
 have hz:=bb (Nat.le_trans (le_add_left _ _)<|Nat.le_trans d<|by decide)
 obtain⟨b',R',j,h⟩:=pq t w (le_of_succ_le m) g d c
 have e:=pl (.ref 4) b (cb R t) (y:=s) (by rw[NB];exact(bP 0x106e011818e9118b00 [_] [_] ι c)) (by rw[NC,w.cr.fJ,Δ];exact(bP 0x106e9118b910008e9118b00 [_,_] [_] ι c))
 have i:=sQ (.ref 4) (cb R t) w.cr (n:=D.length)<|aV 0x106e400000689b1b000e40000068910 [_,_] ι d
 have f:((D.length:Int)==0)=false:=hN λq=>g<|eq_nil_of_length_eq_zero<|Int.ofNat.inj q
 cases y with
 |true=>exact k ⟨_,R',π gf [.c<|dS (.ref 4) b<|cb R t,.c e,.v<|lenZ hz,.F f,.v<|lenZ hz,.c i,.c<|kV (.ref 4) b (cb R t) (.int s)<|.int s,.c j,.k,.v<|lenZ hz,.v<|lenZ hz,.c<|n2 (.ref 4) {b' with pt:=s+D.length} (cb R' t) (.int s) (.int<|s+D.length)<|.bool x,.v<|lenZ hz,.c<|sP (.ref 4) {b' with pt:=s+D.length} (cb R' t) (.int s) (.int D.length)<|.bool x,.v<|lenZ hz,.c<|jg (.ref 4) {b' with pt:=s+D.length} (cb R' t) (.int s) (.int<|s+D.length)<|.int 0],(h.at_<|s+D.length).tick⟩
 |false=>exact k ⟨_,R',π gf [.c<|dS (.ref 4) b<|cb R t,.c e,.v<|lenZ hz,.F f,.v<|lenZ hz,.c i,.c<|kV (.ref 4) b (cb R t) (.int s)<|.int s,.c j,.k,.v<|lenZ hz,.c<|n2 (.ref 4) b' (cb R' t) (.int s) (.int<|s+D.length)<|.bool x,.v<|lenZ hz,.c<|sP (.ref 4) b' (cb R' t) (.int s) (.int D.length)<|.bool x,.v<|lenZ hz,.c<|jg (.ref 4) b' (cb R' t) (.int s) (.int<|s+D.length)<|.int 0],h.tick⟩
theorem iA(t:List Ξ)(w:W aF T0 l n b R T p)(h:1<=f3 x y/\fm x y<=T.length+1):Λ "reached" [.ref 0,.int x,.int y] (aY b R t)=.ok (.tup [.int<|f3 x y,.int<|fm x y]) ⟨[],aY b R t⟩:=pl (.ref 4) b (cb R t) h.1<|w.cr.fJ▸h.2
theorem rB(t:List Ξ)(w:W aF T0 l n b R T p)(h:¬(1<=f3 x y/\fm x y<=T.length+1)):Λ "reached" [.ref 0,.int x,.int y] (aY b R t)=.err 3 ⟨[],aY b R t⟩:=Af (.ref 4) b (cb R t)<|w.cr.fJ▸h
theorem RZ{D:List Int}(h:D≠[]):((D.length:Int)==0)=false:=hN λq=>h<|eq_nil_of_length_eq_zero<|Int.ofNat.inj q
end
section
variable {A D:List Int}{l:Nat}{p:Int}
theorem ef.more{con:List ζ->List Ξ->Res ζ}{k d:Nat}{o:Kr}{T bN:List Int}{p c:Int}(H:ef con ps k T p o bN c)(h:k<=d):ef con ps d T p o bN c:=λaF T0 l n b R t f h0 w=>by obtain⟨b',R',e,g⟩:=H aF T0 l n b R t (Nat.le_trans (Nat.add_le_add_left h n) f) h0 w;exact⟨b',R',e,g.more<|Nat.add_le_add_left h n⟩
theorem rd(f:D≠[])(h:(A++C).length+D.length<=4194304){s:Int}(c:s=A.length+1):ef (Λ "insert_at") [.ref 0,.int s,.list<|zs D] 1 (A++C) p (.ok .none) (A++(D++C))<|if p>s then p+D.length else p:=λaF T0 l n b R t d h0 w=>by obtain⟨b',R',e,g⟩:=x7 false false f h c aF T0 l n b R t d h0 w;exact⟨b',R',π q7 [.c e],g⟩
theorem PL(f:D≠[])(h:(A++C).length+D.length<=4194304){s:Int}(c:s=A.length+1):ef I9 [.ref 0,.list<|zs D] 1 (A++C) s (.ok .none) (A++(D++C))<|s+D.length:=λaF T0 l n b R t d h0 w=>by refine Θ λi=>?_;obtain⟨b',R',e,g⟩:=x7 false true f h c aF T0 l n b R t d h0 w;rw[←w.cr.pt]at e;exact i ⟨b',R',π Pc [.c e],g⟩
theorem rP(g:B≠[])(d:f3 x y=A.length+1)(c:fm x y=A.length+B.length+1):ef (Λ "delete") [.ref 0,.int x,.int y] 1 (A++(B++C)) p (.ok<|.list<|zs B) (A++C)<|if p>f3 x y then fm (f3 x y) (p-(fm x y-f3 x y))else p:=λaF T0 l n b R t h h0 w=>by have i:=length_pos_iff.mpr g;have f:=iA t w ⟨(bP 0x106e011818e9118b00 [_] [_] ι d),by simp only[Δ];exact(bP 0x106e9118b99210008e91189b1b00 [_,_,_] [_] ι c)⟩;generalize f3 x y=s at d f⊢;generalize fm x y=e at c f⊢;obtain⟨b',R',k,j⟩:=nP h0 w (le_of_succ_le h) g d c;exact⟨_,R',π HT [.c<|dS (.ref 4) b<|cb R t,.c f,.F<|hN (x:=s) (y:=e)<|fB 0x12be3e8381038e3e83891189b0b1128e3e8389118b1001e008 [_,_] [_,_] ι i d c,.c<|kV (.ref 4) b (cb R t) (.int s)<|.int e,.c k,.c<|F8 (.ref 4) b' (cb R' t) (.int s)<|.int e,.c<|x6 (.ref 4) b' (cb R' t) (.int s)<|.int e,.c<|jg (.ref 4) b' (cb R' t) (.int s) (.int s)<|.int<|e-s],j.tick⟩
inductive Rep(x y:Int)(D:List Int)(k:Nat)(T:List Int)(p:Int):Prop
 |mk (v bN bB:_):ef (Λ "replace") [.ref 0,.int x,.int y,.list (zs D)] k T p (.ok v) bN bB->(bN.length:Int)+(y-x)=T.length+D.length->Rep x y D k T p
theorem pn{x y:Int}(z:1<=x)(c:x<=y)(E:y<=T.length+1)(m:T.length+D.length<=4194304)(p:Int):Rep x y D 2 T p:=by
 obtain⟨A,B,C,rfl,f,g⟩:=lM z c E;refine Θ λs=>?_;have j:∀{aF T0 l n b R} t,W aF T0 l n b R (A++(B++C)) p->Λ "reached" [.ref 0,.int x,.int y] (aY b R t)=.ok (.tup [.int x,.int y]) ⟨[],aY b R t⟩:=λt w=>by have:=iA t w (by rw[jF c,jG c];exact⟨z,E⟩);rw[jF c,jG c]at this;exact this
 by_cases k:x=y
 ·have r:B=[]:=eq_nil_of_length_eq_zero<|fB 0x102e08118e1018e91189b1b0108e9118b00 [_,_] [_,_] ι f g k;clear z E c;clear g;subst r k;by_cases h:D=[]
  ·subst h;refine s ?_;refine⟨.list [],A++C,p,λaF T0 l n b R t d h0 w=>⟨b,R,π ik [.c<|dS (.ref 4) b<|cb R t,.c<|j t w,.T<|I5 (x:=x) rfl,.c<|π (ps:=[.ref 0,.int x,.list []]) (σ:=aY b R t) q7 [.c<|π (ps:=[.ref 0,.int x,.list [],.bool false,.bool false]) (σ:=aY b R t) gf [.c<|dS (.ref 4) b<|cb R t,.c<|j t w,.k,.k] (σ':=aY b R t) (p:=.none)<|by kernel_rfl] (σ':=aY b R t) (p:=.none)<|by kernel_rfl],w.more<|le_add_right _ _⟩,by rw[Int.sub_self];rfl⟩
  ·refine s ⟨.list [],A++(D++C),if p>x then p+D.length else p,λaF T0 l n b R t d h0 w=>?_,?_⟩
   ·obtain⟨b',R',e,i⟩:=(rd h m f).more (le_succ 1) aF T0 l n b R t d h0 w;exact⟨b',R',π ik [.c<|dS (.ref 4) b<|cb R t,.c<|j t w,.T<|I5 (x:=x) rfl,.c e],i⟩
   ·simp only[Δ,nil_append];exact(OE 0x108e9b1b9209a00b99210 [_,_,_] [_] ι)
 have hz:=bb (Nat.le_trans (le_add_left _ _)<|Nat.le_trans m<|by decide)
 ·have r:B≠[]:=λq=>k (by have:=length_eq_zero_iff.mpr q;exact(fB 0x108e1012e08118e91189b1b0108e9118b00 [_,_] [_,_] ι f g this));by_cases h:D=[]
  ·subst h;refine s ⟨.list<|zs B,A++C,(if p>x then fm x (p-(y-x))else p),λaF T0 l n b R t d h0 w=>?_,?_⟩
   ·obtain⟨b',R',e,i⟩:=(rP r ((jF c).trans f)<|(jG c).trans g).more (le_succ 1) aF T0 l n b R t d h0 w;rw[jF c,jG c]at i;exact⟨b',R',π ik [.c<|dS (.ref 4) b<|cb R t,.c<|j t w,.F<|hN k,.k,.k,.c e],i⟩
   ·simp only[Δ,length_nil];exact(cP 0x108e9b08b992109a01b92008e91189b1b0118e9118b00 [_,_,_] [_,_] ι f g)
  ·have F:(A++C).length+D.length<=4194304:=by simp only[Δ]at m⊢;exact(aV 0x100e400000689392000e400000689399210 [_,_,_,_] ι m)
   have o:((A++(D++C)).length:Int)+(y-x)=(A++(B++C)).length+D.length:=by simp only[Δ];exact(cP 0x108e9b2b993109a01b9932008e91189b1b0118e9118b00 [_,_,_,_] [_,_] ι f g)
   by_cases q:p>=y
   ·refine s ⟨.list<|zs B,A++(D++C),p+D.length-(y-x),λaF T0 l n b R t d h0 w=>?_,o⟩;obtain⟨b',R',aX,i⟩:=nP h0 w (Nat.le_trans (le_add_right _ _) d) r f g;obtain⟨bX,fe,u,v⟩:=pq t i (le_of_succ_le d) h F f;have H:=w.cr.pt;subst H;exact⟨_,fe,π ik [.c<|dS (.ref 4) b<|cb R t,.c<|j t w,.F<|hN k,.v<|lenZ hz,.F<|RZ h,.v<|lenZ hz,.c<|sQ (.ref 4) (cb R t) w.cr (n:=D.length-(y-x))<|cP 0x106e400000689aa01b1b000e4000006891006e10 [_,_] [_,_] ι c m,.c<|kV (.ref 4) b (cb R t) (.int x)<|.int y,.c aX,.c u,.T<|e2 q,.v<|lenZ hz,.v<|lenZ hz,.c<|tj (.ref 4) {bX with pt:=b.pt+D.length-(y-x)} (cb fe t) (.int x) (.int y)<|.int D.length,.v<|lenZ hz,.c<|sP (.ref 4) {bX with pt:=b.pt+D.length-(y-x)} (cb fe t) (.int y) (.int D.length)<|.bool true,.c<|x6 (.ref 4) {bX with pt:=b.pt+D.length-(y-x)} (cb fe t) (.int x)<|.int y,.k,.v<|lenZ hz,.c<|jg (.ref 4) {bX with pt:=b.pt+D.length-(y-x)} (cb fe t) (.int x) (.int<|x+D.length)<|.int<|y-x],(v.at_ _).tick⟩
   ·refine s ⟨.list<|zs B,A++(D++C),if(if p>x then fm x (p-(y-x))else p)>x then(if p>x then fm x (p-(y-x))else p)+D.length else(if p>x then fm x (p-(y-x))else p),λaF T0 l n b R t d h0 w=>?_,o⟩;obtain⟨b',R',aX,i⟩:=nP h0 w (Nat.le_trans (le_add_right _ _) d) r f g;obtain⟨bX,fe,u,v⟩:=pq t i (le_of_succ_le d) h F f;have G:decide (b.pt>=y)=false:=f5 (by rw[w.cr.pt];exact q);exact⟨_,fe,π ik [.c<|dS (.ref 4) b<|cb R t,.c<|j t w,.F<|hN k,.v<|lenZ hz,.F<|RZ h,.v<|lenZ hz,.c<|sQ (.ref 4) (cb R t) w.cr (n:=D.length-(y-x))<|cP 0x106e400000689aa01b1b000e4000006891006e10 [_,_] [_,_] ι c m,.c<|kV (.ref 4) b (cb R t) (.int x)<|.int y,.c aX,.c u,.F G,.v<|lenZ hz,.c<|tj (.ref 4) bX (cb fe t) (.int x) (.int y)<|.int D.length,.v<|lenZ hz,.c<|sP (.ref 4) bX (cb fe t) (.int y) (.int D.length)<|.bool true,.c<|x6 (.ref 4) bX (cb fe t) (.int x)<|.int y,.k,.v<|lenZ hz,.c<|jg (.ref 4) bX (cb fe t) (.int x) (.int<|x+D.length)<|.int<|y-x],v.tick⟩
end
variable {a1 a2:aD}
section
variable {t:dP}{m:bL}{it:aI}{r:Res aS}{x:ζ}
theorem dx(h:t a=.ok false a1):c4 t m a=.ok .next a1:=by rw[vz];unfold kT;rw[h];rfl
theorem oh(h:t a=.ok true a1)(c:m a1=.ok .next a2)(b:c4 t m a2=r):c4 t m a=r:=by rw[vz];unfold kT;rw[h];show(ee<|m a1).bind (nR<|c4 t m)=r;rw[c];exact b
theorem ip(b:it a=.ok xs a1)(h:ae5 (cE f m) xs a1=r):lh f m it a=r:=by unfold lh;rw[b];exact h
theorem cD{g:ζ->bL}(h:g x a=.ok .next a2)(b:ae5 g xs a2=r):ae5 g (x::xs) a=r:=by show(ee<|g x a).bind (nR<|ae5 g xs)=r;rw[h];exact b
theorem uy{g:ζ->bL}(h:g x a=.ok (.ret p) a2):ae5 g (x::xs) a=.ok (.ret p) a2:=by show(ee<|g x a).bind (nR<|ae5 g xs)=_;rw[h];rfl
end
theorem cg(X:List ζ)(r:ζ):((X++[r]).length:Int)-1=X.length:=by rw[Δ];exact Int.add_sub_cancel (X.length:Int) 1
theorem qq(X:List ζ)(r:ζ):((X++[r]).length:Int)>0:=by rw[Δ];exact natCast_pos.mpr<|succ_pos _
variable {Y:List ζ}{gL:List Int}
section
variable {X:List ζ}{A D:List Int}{l:Nat}{p:Int}
inductive Below:List ζ->Prop
 |nil:Below []
 |row (X:List ζ) {r:ζ}:iH r->Below (X++[r])
 |bd (X:List ζ):Below (X++[gU])
theorem DG{L:List ζ}(h:Below X)(g:L=X++Y)(d:L.length<=sizeLine)(σ:List Ξ){at_:Int}(f:at_=X.length):Λ "markers_ahead" [.list L,.int at_] σ=.ok (.list []) ⟨[],σ⟩:=by
 subst f g
 have e:c4 jb.d ja.d ⟨[some<|.list<|X++Y,some<|.int X.length,some<|.list []],σ⟩=.ok .next ⟨[some<|.list<|X++Y,some<|.int X.length,some<|.list []],σ⟩:=by
  refine dx ?_
  cases h with
  |nil=>exact aa.run [.k]
  |@row X r h=>
   have c:decide (((X++[r]).length:Int)>0)=true:=e2<|qq ..
   have b:=gJ (ys:=Y) (k:=((X++[r]).length:Int)-1) (by rw[bp];rfl) d<|cg ..
   clear d
   cases h with
   |ins s e=>exact aa.run [.T c,.v b,.k,.k]
   |del s D q=>exact aa.run [.T c,.v b,.k,.k]
  |bd X=>have c:decide (((X++[gU]).length:Int)>0)=true:=e2<|qq ..;have b:=gJ (ys:=Y) (k:=((X++[gU]).length:Int)-1) (by rw[bp];rfl) d<|cg ..;exact aa.run [.T c,.v b,.k,.k]
 exact π sA [.s e]
theorem p9(t:List Ξ)(w:W aF T0 l n b R T p)(c:1<=x)(d:x<=T.length+1):bw 7 "goto" [.ref 0,.int x] (aY b R t)=.ok (.int x) ⟨[],aY {b with pt:=x} R t⟩:=by refine Θ λf=>?_;have e:=Pb (.ref 4) b (cb R t) x;rw[show(if(1:Int)>x then(1:Int)else x)=x from if_neg<|Int.not_lt.mpr c,if_neg (by rw[w.cr.fJ];exact Int.not_lt.mpr d)]at e;exact f e
theorem pv(u:ζ)(b:cG)(t:List Ξ)(c:1<=x)(d:y<=b.fJ):Λ "need_visible" [.ref 0,.int x,.int y] (aQ u b t)=.ok .none ⟨[],aQ u b t⟩:=π uf [.F<|f5<|Int.not_lt.mpr c,.F<|f5<|Int.not_lt.mpr d,.k]
theorem wM(k:B≠[]){s e:Int}(c:s=A.length+1)(f:e=A.length+B.length+1)(p:Int):∃i,ef (Λ "undo_insert") [.ref 0,eR s e] 1 (A++(B++C)) p (.ok .none) (A++C) i:=by
 have d:s<=e:=(cP 0x106e1018e91189b1b0108e9118b00 [_,_] [_,_] ι c f);refine⟨if s>f3 s e then fm (f3 s e) (s-(fm s e-f3 s e))else s,λaF T0 l n b R t h h0 w=>?_⟩
 ·have g:e<=(A++(B++C)).length+1:=by simp only[Δ];exact(bP 0x106e9118b99210008e91189b1b00 [_,_,_] [_] ι f)
  obtain⟨b',R',m,j⟩:=rP k ((jF d).trans c) ((jG d).trans f) aF T0 l n _ R t h h0<|w.at_ s;exact⟨b',R',π wI [.k,.k,.c<|pv (.ref 4) b (cb R t) (x:=s) (bP 0x106e011818e9118b00 [_] [_] ι c)<|w.cr.fJ▸g,.k,.c<|p9 t w (x:=s) (bP 0x106e011818e9118b00 [_] [_] ι c)<|cP 0x106e9118b0006e9118b0106e10 [_] [_,_] ι d g,.k,.k,.c m],j⟩
theorem Bd(e:D≠[])(h:(A++C).length+D.length<=4194304){s:Int}(c:s=A.length+1):ef (Λ "insert_piece") [.ref 0,.inst 10 [.list<|zs D,.list []]] 1 (A++C) s (.ok .none) (A++(D++C))<|s+D.length:=λaF T0 l n b R t d h0 w=>by obtain⟨b',R',g,f⟩:=PL e h c aF T0 l n b R t d h0 w;exact⟨b',R',π ue [.c g,.k,.k],f⟩
theorem wL(i:D≠[])(k:(A++(D++C)).length<=4194304){s:Int}(c:s=A.length+1)(q:Bool)(p:Int):∃o,ef (Λ "undo_delete") [.ref 0,ke s D q,.list []] 1 (A++C) p (.ok .none) (A++(D++C)) o:=by
 refine Θ λm=>?_
 have j:(A++C).length+D.length<=4194304:=by simp only[Δ]at k⊢;exact(aV 0x100e400000689192000e4000006899210 [_,_,_] ι k)
 have f:s<=(A++C).length+1:=by rw[Δ];exact(bP 0x106e9118b910008e9118b00 [_,_] [_] ι c)
 have r:s<=(A++(D++C)).length+1:=by simp only[Δ];exact(bP 0x106e9118b99210008e9118b00 [_,_,_] [_] ι c)
 have d:1<=s:=(bP 0x106e011818e9118b00 [_] [_] ι c)
 cases q with
 |true=>refine m ⟨s+D.length,λaF T0 l n b R t g h0 w=>?_⟩;obtain⟨b',R',h,e⟩:=Bd i j c aF T0 l n _ R t g h0<|w.at_ s;exact⟨b',R',π ot [.k,.k,.c<|pv (.ref 4) b (cb R t) d<|w.cr.fJ▸f,.k,.k,.c<|p9 t w d f,.k,.c h,.k,.k,.k],e⟩
 |false=>refine m ⟨s,λaF T0 l n b R t g h0 w=>?_⟩;obtain⟨b',R',h,e⟩:=Bd i j c aF T0 l n _ R t g h0<|w.at_ s;exact⟨_,R',π ot [.k,.k,.c<|pv (.ref 4) b (cb R t) d<|w.cr.fJ▸f,.k,.k,.c<|p9 t w d f,.k,.c h,.k,.k,.k,.c<|p9 t e d r,.k],e.at_ s⟩
end
section
variable {X L G:List ζ}{A D:List Int}{l:Nat}{p:Int}
theorem oV.below(h:oV X):Below X:=by
 cases h with
 |nil=>exact .nil
 |snoc X=>exact .bd X
inductive OZ(X:cG->List ζ->Prop)(c:List ζ->Prop)(aF:List ζ)(T0:List Int)(l n:Nat)(T:List Int)(p:Int):Prop
 |mk (jd:cG) (R:List ζ):X jd R->W aF T0 l n jd R T p->c R->OZ X c aF T0 l n T p
inductive KJ(X:List ζ)(P:Int->Int->Prop):Prop
 |mk (bB v:Int):v=(X.length:Int)->P bB v->KJ X P
theorem CY{r:ζ}(h:Ey r T gL)(y:Below X)(g:L=X++r::Y)(s:L.length<=sizeLine){i:Int}(c:i=X.length+1)(p:Int):KJ X λd v=>ef (Λ "undo_row") [.ref 0,.list L,.int i] 1 T p (.ok<|.int v) gL d:=by
 refine Θ λx=>?_
 cases h with
 |ins m u o z=>obtain⟨d,H⟩:=wM m o z p;refine x ⟨d,i-1,(bP 0x108eb0a118008e9118b00 [_] [_] ι c),λaF T0 l n b R t f h0 w=>?_⟩;obtain⟨b',R',e,j⟩:=H aF T0 l n b R t f h0 w;exact⟨b',R',π sF [.v<|gJ g s (k:=i-1)<|bP 0x108eb0a118008e9118b00 [_] [_] ι c,.k,.k,.c e],j⟩
 |del q m u o=>obtain⟨d,H⟩:=wL m u o q p;refine x ⟨d,i-1-((0:Nat):Int),(bP 0x108eb0ab08a118008e9118b00 [_] [_] ι c),λaF T0 l n b R t f h0 w=>?_⟩;obtain⟨b',R',e,j⟩:=H aF T0 l n b R t f h0 w;exact⟨b',R',π sF [.v<|gJ g s (k:=i-1)<|bP 0x108eb0a118008e9118b00 [_] [_] ι c,.k,.k,.k,.k,.c<|DG y g s (aY b R t) (at_:=i-1)<|bP 0x108eb0a118008e9118b00 [_] [_] ι c,.c e,.k],j⟩
theorem k8.under(h:k8 G T gL)(c:oV X):Below<|X++G:=by
 cases h with
 |nil=>rw[append_nil];exact c.below
 |snoc _ b=>rw[←bp];exact .row _ b.row
theorem Ey.ne{r:ζ}(h:Ey r T gL):T≠gL:=λq=>by
 refine Θ λc=>?_
 have b:=congrArg length q
 cases h with
 |ins dc=>refine c ?_;exact dc<|eq_nil_of_length_eq_zero (by simp only[Δ]at b;exact(aV 0x102e08102e92099210 [_,_,_] ι b))
 |del _ dc=>refine c ?_;exact dc<|eq_nil_of_length_eq_zero (by simp only[Δ]at b;exact(aV 0x102e08212e99120910 [_,_,_] ι b))
theorem W.ne(w:W aF T0 l n b R T p)(h:T≠T0):W aF T0 (max l<|aF.length+1) n b R T p:=⟨w.cr,w.tk,w.bd,w.dat,w.oI,w.c5,Nat.max_le.mpr ⟨w.lo,by
 obtain⟨G,rfl,c⟩:=w.oI
 clear w
 cases c with
 |nil=>exact(h rfl).elim
 |snoc=>rw[Δ,Δ];exact Nat.add_le_add_left (le_add_left _ _) _⟩⟩
theorem W.less{c:Nat}(w:W aF T0 c n b R T p)(h:l<=c):W aF T0 l n b R T p:=⟨w.cr,w.tk,w.bd,w.dat,w.oI,w.c5,Nat.le_trans h w.lo⟩
theorem Hm(D:oV X)(y:L.length<=sizeLine)(h:k8 G T gL):∀(Y:List ζ),L=X++G++Y->∀(p i:Int),i=(X++G).length->KJ X λK v=>(∀aF T0 l n b R t,n+G.length<=4000000->cN t->W aF T0 l n b R T p->
 OZ (λb' R'=>c4 lL.d lK.d ⟨[some<|.ref 0,some<|.list L,some<|.int i],aY b R t⟩=.ok .next ⟨[some<|.ref 0,some<|.list L,some<|.int v],aY b' R' t⟩) (λR'=>T=T0->G≠[]->aF.length<R'.length) aF T0 l (n+G.length) gL K):=by
 induction h with
 |nil T=>
  intro Y f p i c
  refine⟨p,i,by rw[c,append_nil],λaF T0 l n b R t e h0 w=>⟨b,R,dx ?_,w,λZ q=>(q rfl).elim⟩⟩
  rw[append_nil]at f c
  subst c
  cases D with
  |nil=>exact aa.run [.k,.k]
  |snoc X=>exact aa.run [.T<|e2<|qq X gU,.v<|gJ (ys:=Y) (by rw[f,bp];rfl) y<|cg X gU,.k,.k,.k]
 |@snoc G r T bN J P m H=>
  intro Y f p i c
  have j:L=X++G++r::Y:=by rw[f,←bp,bp];rfl
  have x:i=(X++G).length+1:=by rw[c];simp only[Δ,length_singleton];exact(eB 0x108e9118b910b9911810 [_,_] ι)
  have u:(G++[r]).length=G.length+1:=Δ
  obtain⟨B,v,M,F⟩:=CY m (P.under D) j y x p
  obtain⟨N,S,s,U⟩:=H (r::Y) j B v M
  refine⟨N,S,s,λaF T0 l n b R t e h0 w=>?_⟩
  rw[u]at e⊢
  obtain⟨b',R',V,g⟩:=F aF T0 l n b R t (aV 0x100e3d0900689118000e3d0900689911810 [_,_] ι e) h0 w
  have O:∃d,W aF T0 d (n+1) b' R' bN B/\l<=d/\(T=T0->aF.length<d):=by
   by_cases q:T=T0
   ·exact⟨max l<|aF.length+1,g.ne λz=>m.ne<|q.trans z.symm,Nat.le_max_left _ _,λZ=>Nat.le_max_right _ _⟩
   ·exact⟨l,g,Nat.le_refl _,λz=>(q z).elim⟩
  obtain⟨d,g,Q,o⟩:=O
  obtain⟨bX,fe,I,C,_⟩:=U aF T0 d (n+1) b' R' t (aV 0x100e3d090068919118000e3d0900689911810 [_,_] ι e) h0 g
  have A:decide (i>0)=true:=e2<|bP 0x107e00818e9118b00 [_] [_] ι x
  have E:=gJ (k:=i-1) j y<|bP 0x108eb0a118008e9118b00 [_] [_] ι x
  refine⟨bX,fe,oh (a1:=⟨[some<|.ref 0,some<|.list L,some<|.int i],aY b R t⟩) ?_ (aa.run [.c V]) I,by rw[Nat.add_comm G.length,←Nat.add_assoc];exact C.less Q,λq Z=>Nat.lt_of_lt_of_le (o q) C.lo⟩
  cases m with
  |ins=>exact aa.run [.T A,.v E,.k,.k]
  |del=>exact aa.run [.T A,.v E,.k,.k]
theorem MR{r:ζ}(h:iH r)(c:L=X++[r]++gU::Y)(d:L.length<=sizeLine)(σ:List Ξ){i:Int}(b:i=(X++[r]).length+1):Λ "above_boundaries" [.list L,.int i] σ=.ok (.int<|i-1) ⟨[],σ⟩:=by
 have e:c4 hV.d hU.d ⟨[some<|.list L,some<|.int i],σ⟩=.ok .next ⟨[some<|.list L,some<|.int<|i-1],σ⟩:=by
  have g:=gJ (ys:=gU::Y) (k:=i-1-1) (by rw[c,bp];rfl) d (by rw[Δ,length_singleton]at b;exact(bP 0x108eb0a118a118008e9118b911800 [_] [_] ι b))
  have f:decide (i-1>0)=true:=e2 (by have:=qq X r;exact(cP 0x127e3e838a11800807eb00838e3e8389118b00 [_] [_] ι b this))
  refine oh (a1:=⟨[some<|.list L,some<|.int i],σ⟩) (aa.run [.T (e2 (bP 0x107e00818e9118b00 [_] [_] ι b):decide (i>0)=true),.v<|gJ (k:=i-1) c d<|bP 0x108eb0a118008e9118b00 [_] [_] ι b,.k,.k,.k]) (a2:=⟨[some<|.list L,some<|.int<|i-1],σ⟩) (aa.run [])<|dx ?_
  clear b
  clear c d
  cases h with
  |ins=>exact aa.run [.T f,.v g,.k,.k,.k]
  |del=>exact aa.run [.T f,.v g,.k,.k,.k]
 exact π o8 [.s e]
theorem MS(o:oV X)(h:k8 G T gL)(m:G≠[])(j:L=X++G++gU::Y)(q:L.length<=sizeLine){i:Int}(f:i=(X++G).length+1)(p:Int):KJ X λc v=>(∀aF l n b R t,n+G.length<=4000000->cN t->W aF T l n b R T p->OZ (λb' R'=>Λ "undo_group" [.ref 0,.list L,.int i] (aY b R t)=.ok (.int v) ⟨[],aY b' R' t⟩) (λR'=>aF.length<R'.length) aF T l (n+G.length) gL c):=by
 obtain⟨c,v,g,H⟩:=Hm o q h (gU::Y) j p (i-1)<|bP 0x108eb0a118008e9118b00 [_] [_] ι f
 refine⟨c,v,g,λaF l n b R t s h0 w=>?_⟩
 obtain⟨b',R',e,k,d⟩:=H aF T l n b R t s h0 w
 refine⟨b',R',π xH [.c (?_:Λ "above_boundaries" [.list L,.int i] (aY b R t)=.ok (.int<|i-1) ⟨[],aY b R t⟩),.s e],k,d rfl m⟩
 clear e k w l
 clear o c g H
 cases h with
 |nil=>exact(m rfl).elim
 |@snoc G r _ _ _ _ d=>exact MR d.row (by rw[j,←bp]) q (aY b R t) (by rw[f,←bp])
end
def cu(k:Nat)(b:cG)(R:List ζ):List Ξ:=[.obj 7 [some<|.int 1,some<|.str 15,some<|.ref<|k+1,some<|.ref<|k+3,some<|.int b.pt,some<|.int 1,some<|.int b.fJ,some .none,some<|.bool true,some<|.bool false,some<|.int b.tk,some<|.int b.xQ,some<|.int 1,some<|.list [],some<|.ref<|k+4,some .none,some .none,some .none,some .none,some .none],.obj 4 [some<|.int 8,some<|.ref<|k+2,some<|.int b.b9,some<|.int b.ge],.lst<|zs b.cells,.obj 5 [some .dJ],.obj 11 [some<|.ref<|k+5],.obj 9 [some<|.ref<|k+6,some<|.int 0,some<|.bool true,some .none,some .none],.lst R]
theorem DU(b:cG)(R:List ζ)(t:List Ξ):aY b R t=cu 0 b R++t:=rfl
noncomputable def yR(k:Nat):List Nat:=[k,k+1,k+2,k+3,k+4,k+5,k+6]
theorem WK{P:Nat->Prop}(h0:P 0)(f:P 1)(g:P 2)(b:P 3)(c:P 4)(d:P 5)(e:P 6):∀j,j<7->P j
 |0,_=>h0
 |1,_=>f
 |2,_=>g
 |3,_=>b
 |4,_=>c
 |5,_=>d
 |6,_=>e
 |n+7,h=>absurd h (fF<|le_add_left 7 n)
variable {b':cG}{R':List ζ}{pre:List Ξ}
section
variable {t:List Ξ}
theorem me(ms:List Nat):∀j,j<7->(yR k++ms)[j]?=some (k+j):=WK rfl rfl rfl rfl rfl rfl rfl
theorem dY(h:aN p):h8 J (some p)<|some p:=.some<|.data h
theorem hx.data(h:∀x∈xs,aN x):hx J (.lst xs)<|.lst xs:=.lst ⟨rfl,λi x y b d=>by cases b.symm.trans d;exact .data<|h x<|List.mem_of_getElem? b⟩
theorem fp(L:List Int):∀x∈zs L,aN x:=λx h=>by obtain⟨i,_,rfl⟩:=List.mem_map.mp h;exact .int i
theorem qd(e:∀j,j<7->J[j]?=some (k+j))(d:∀r∈R,aN r):∀j,j<7->∃m m',(cu 0 b R)[j]?=some m/\(cu k b R)[j]?=some m'/\hx J m m':=by
 have c:∀j,j<7->h8 J (some<|.ref j) (some<|.ref<|k+j):=λj h=>.some<|.ref<|e j h;refine WK ⟨_,_,rfl,rfl,.obj ?_⟩ ⟨_,_,rfl,rfl,.obj ?_⟩ ⟨_,_,rfl,rfl,.data<|fp _⟩ ⟨_,_,rfl,rfl,.obj<|.cons (dY .dJ) .nil⟩ ⟨_,_,rfl,rfl,.obj<|.cons (c 5<|by decide) .nil⟩ ⟨_,_,rfl,rfl,.obj<|.cons (c 6<|by decide)<|.cons (dY<|.int _)<|.cons (dY<|.bool _)<|.cons (dY .none)<|.cons (dY .none) .nil⟩ ⟨_,_,rfl,rfl,.data d⟩
 ·exact .cons (dY<|.int _)<|.cons (dY<|.str _)<|.cons (c 1<|by decide)<|.cons (c 3<|by decide)<|.cons (dY<|.int _)<|.cons (dY<|.int _)<|.cons (dY<|.int _)<|.cons (dY .none)<|.cons (dY<|.bool _)<|.cons (dY<|.bool _)<|.cons (dY<|.int _)<|.cons (dY<|.int _)<|.cons (dY<|.int _)<|.cons (dY<|.list cX)<|.cons (c 4<|by decide)<|.cons (dY .none)<|.cons (dY .none)<|.cons (dY .none)<|.cons (dY .none)<|.cons (dY .none) .nil
 ·exact .cons (dY<|.int _)<|.cons (c 2<|by decide)<|.cons (dY<|.int _)<|.cons (dY<|.int _) .nil
theorem tg(c:pre.length=k)(j:Nat)(h:j<7):(pre++(cu k b R++t))[k+j]?=(cu k b R)[j]?:=by subst c;rw[List.getElem?_append_right<|le_add_right _ _,Nat.add_sub_cancel_left,List.getElem?_append_left h]
theorem BD(e:pre.length=k){i:Nat}(h:∀j,j<7->i≠k+j):(pre++(cu k b' R'++t))[i]?=(pre++(cu k b R++t))[i]?:=by
 subst e;refine Θ λd=>?_;by_cases q:i<pre.length
 ·refine d ?_;rw[List.getElem?_append_left q,List.getElem?_append_left q]
 ·obtain⟨j,rfl⟩:=Nat.le.dest<|Nat.le_of_not_lt q;have c:=Nat.le_of_not_lt λz=>h j z rfl;refine d ?_;rw[List.getElem?_append_right<|le_add_right _ _,List.getElem?_append_right<|le_add_right _ _,Nat.add_sub_cancel_left,List.getElem?_append_right c,List.getElem?_append_right c];rfl
theorem yS{j i:Nat}(h:(yR k)[j]?=some i):j<7/\i=k+j:=by refine Θ λc=>?_;have b:j<7:=(b8 h).1;have:=me (k:=k) [] j b;rw[append_nil]at this;exact c ⟨b,Φ<|h.symm.trans this⟩
theorem LK(k:Nat):(yR k).Nodup:=by have:yR k=(List.range 7).map (k+·):=rfl;rw[this];exact Pairwise.map _ (λa b h=>λq=>h<|Nat.add_left_cancel q) nodup_range
theorem y0{ds:List ζ}(d:∀y∈ds,aN y)(h0:J[0]?=some k):All (fC J) (.ref 0::ds)<|.ref k::ds:=.cons (.ref h0) ⟨rfl,λi x y b c=>by cases b.symm.trans c;exact .data<|d x<|List.mem_of_getElem? b⟩
theorem RK(l:∀r∈R,aN r)(h0:cN<|pre++(cu k b R++t))(f:pre.length=k):k4 (yR k) (aY b R [])<|pre++(cu k b R++t):=
 ⟨rfl,LK k,λj i e=>by obtain⟨d,rfl⟩:=yS e;rw[tg f j d];exact qd (λj h=>by have:=me (k:=k) [] j h;rw[append_nil]at this;exact this) l j d,λi c g e q=>by cases q;exact h0 _ (List.mem_of_getElem? e) g rfl⟩
theorem Nv(f:∀r∈R',aN r)(d:pre.length=k)(x:List Ξ):nx (yR k) (aY b' R' x) (pre++(cu k b R++t))<|pre++(cu k b' R'++t):=
 ⟨by simp only[Δ];rfl,λi q=>BD d λj c e=>q<|e▸List.mem_of_getElem? (by have:=me (k:=k) [] j c;rw[append_nil]at this;exact this),λj i e=>by obtain⟨c,rfl⟩:=yS e;rw[tg d j c,DU,List.getElem?_append_left c];exact qd (λj h=>by have:=me (k:=k) [] j h;rw[append_nil]at this;exact this) f j c⟩
theorem uJ{ds:List ζ}{x:List Ξ}(e:∀y∈ds,aN y)(f:∀r∈R,aN r)(g:∀r∈R',aN r)(h0:cN<|pre++(cu k b R++t))(c:pre.length=k)(h:con (.ref 0::ds) (aY b R [])=.ok q ⟨[],aY b' R' x⟩)(d:aN q):c3 r0 con (.ref k::ds) (pre++(cu k b R++t))=.ok q ⟨[],pre++(cu k b' R'++t)⟩:=jR<|.ok (y0 e rfl) (RK f h0 c) h (.old<|.data d)<|Nv g c x
end
theorem x9(n:Nat):∀L M:List Int,L.length=M.length->h5 (gY<|n+1) (zs L) (zs M)=some (L==M)
 |[],[],_=>rfl
 |x::L,y::M,h=>by have c:=x9 n L M<|Nat.succ.inj h;show((some<|x==y).bind λa=>(h5 (gY<|n+1) (zs L)<|zs M).bind λb=>some<|a&&b)=_;rw[c];rfl
theorem ya(n:Nat)(L M:List Int):mV (gY<|n+1) (zs L) (zs M)=some (L==M):=by
 unfold mV;rw[aZ,aZ];by_cases h:L.length=M.length
 ·rw[if_pos h];exact x9 n L M h
 ·rw[if_neg h,beq_false_of_ne λq=>h<|congrArg length q]
theorem pP(L M:List Int)(a:aD):iy (.list<|zs L) (.list<|zs M) a=.ok (.bool<|!(L==M)) a:=by show Res.of ((((mV (gY 4) (zs L)<|zs M).or<|gY 5 (.list<|zs L)<|.list<|zs M)).bind λb=>some (ζ.bool<|!b,a))=_;rw[ya];rfl
variable {us:List<|List Int}
section
variable {X L G:List ζ}{A D:List Int}{l:Nat}{p:Int}{t:List Ξ}
theorem ba{x:ζ}(h:aN x)(b:∀z∈xs,aN z):∀z∈x::xs,aN z:=λz q=>(ae6 q).elim (λe=>e▸h)<|b z
theorem iH.data{r:ζ}(h:iH r):aN r:=by
 cases h with
 |ins s e=>exact .tup<|ba (.str _)<|fp [s,e]
 |del s D q=>exact .tup<|ba (.str _)<|ba (.int _)<|data2 (.inst<|data2 (.zs _)<|.list cX)<|.bool _
theorem HY:aN gU:=.tup<|ba (.str _) cX
theorem k8.data(h:k8 G T T0):∀r∈G,aN r:=by
 induction h with
 |nil=>exact cX
 |snoc _ b c=>exactλr q=>(List.mem_append.mp q).elim (c r) λq=>by cases List.mem_singleton.mp q;exact b.row.data
theorem W.rows(w:W aF T0 l n b R T p):∀r∈R,aN r:=by obtain⟨G,rfl,h⟩:=w.oI;exactλr q=>(List.mem_append.mp q).elim (w.dat r)<|h.data r
theorem w_text(w:W aF T0 l n b R T p)(c:pre.length=k)(h0:cN<|pre++(cu k b R++t)):Λ "_law_text" [.ref k] (pre++(cu k b R++t))=.ok (.list<|zs T) ⟨[],pre++(cu k b R++t)⟩:=by rw[z6];exact uJ (x:=[]) cX w.rows w.rows h0 c (b1 (h:=[.c<|fS (.ref 4) (cb R []) w.cr,.c (gE (.ref 4) (cb R []) w.cr (A:=[]) (s:=1) (e:=T.length+1) (by rw[append_nil];rfl) rfl (by rw[length_nil];exact congrArg (·+1) (Int.zero_add _).symm))]) (by kernel_rfl) nofun)<|.zs T
inductive kb:List ζ->List Int->List (List Int)->Prop
 |nil {X:List ζ} (h:oV X) (T:List Int):kb X T []
 |cons {X G:List ζ} {T gL:List Int} {us:List (List Int)} (h:kb X gL us) (u:k8 G T gL) (n:G≠[]):kb (X++G++[gU]) T (gL::us)
theorem kb.bd(h:kb X T us):oV X:=by
 cases h with
 |nil h=>exact h
 |cons=>exact .snoc _
def xl(R R':List ζ):Prop:=(oV R/\R'=R)\/∃X r,iH r/\R=X++[r]/\R'=X++[r]++[gU]
theorem B4(t:List Ξ)(w:W aF T0 l n b R T p)(i:n+1<=4000000):∃R',bw 9 "boundary" [.ref 5] (aY b R t)=.ok .none ⟨[],aY b R' t⟩/\oV R'/\R'.length<=n+1/\(∀r∈R',aN r)/\((R'=aF/\R=aF/\T=T0)\/∃G,R=aF++G/\R'=aF++G++[gU]/\k8 G T T0/\G≠[])/\xl R R':=by
 refine Θ λg=>?_
 have d:=ll w.c5<|le_of_succ_le i
 have f:=w.rows
 have c:=w.c5
 obtain⟨G,rfl,h⟩:=w.oI
 cases h with
 |nil=>refine g ?_;rw[append_nil]at d c⊢;exact⟨aF,N8 b t w.bd d,w.bd,le_succ_of_le c,w.dat,.inl ⟨rfl,rfl,rfl⟩,.inl ⟨w.bd,rfl⟩⟩
 |@snoc G r _ bN _ h e=>refine g ?_;rw[←bp]at d c f⊢;exact⟨_,Kl b t e.row d,.snoc _,by rw[Δ];exact Nat.add_le_add_right c 1,λx q=>(List.mem_append.mp q).elim (f x) λq=>by cases List.mem_singleton.mp q;exact HY,.inr ⟨G++[r],bp ..,by rw[bp aF],.snoc h e,by simp⟩,.inr ⟨_,r,e.row,rfl,rfl⟩⟩
theorem W.anew(w:W aF T0 l n b R T p)(h:oV R')(d:∀r∈R',aN r)(c:R'.length<=k):W R' T R'.length k b R' T p:=⟨w.cr,w.tk,h,d,⟨[],(append_nil _).symm,.nil T⟩,c,Nat.le_refl _⟩
end
noncomputable def turn(T:List Int):List (List Int)->List (List Int)->List Int×List (List Int)
 |[],vs=>(T,vs)
 |u::us,vs=>turn u us (T::vs)
def aJ(us:List<|List Int):List ζ:=us.map λu=>.list<|zs u
theorem jA(us:List<|List Int):∀z∈aJ us,aN z:=λz q=>by obtain⟨u,_,rfl⟩:=List.mem_map.mp q;exact .zs u
section
variable {X L G:List ζ}{p:Int}
inductive AW(us vs:List<|List Int)(F:Option ζ->Option ζ->List Ξ->Prop)(n:Nat)(T:List Int):Prop
 |mk (b R i o p:_):F i o (aY b R [])->W R (turn T us vs).1 R.length n b R (turn T us vs).1 p->kb R (turn T us vs).1 (turn T us vs).2->AW us vs F n T
theorem age(ο:L.length<=sizeLine)(x:ζ):∀(us:List<|List Int) (X:List ζ) (T:List Int),kb X T us->∀(Y:List ζ) (i:Int) (o:Option ζ) (vs:List<|List Int) (R:List ζ) (n:Nat) (b:cG) (p:Int),L=X++Y->i=X.length->W R T R.length n b R T p->kb R T vs->n+X.length<=3999999->
 AW us vs (λN bu σ=>ae5 (cE (bh 4) hG.d) (aJ us) ⟨[some<|.ref 0,some x,some<|.list L,some<|.int i,o],aY b R []⟩=.ok .next ⟨[some<|.ref 0,some x,some<|.list L,N,bu],σ⟩) (n+X.length) T:=by
 intro us
 induction us with
 |nil=>exactλX T α Y i o vs R n b p α α w g α=>⟨b,R,_,o,p,rfl,w.more<|le_add_right _ _,g⟩
 |cons u us B=>
  intro E T f
  cases f with
  |@cons X G _ _ _ h M U=>
  intro Y i o vs R n b p m F w g d
  refine Θ λj=>?_
  have c:(X++G++[gU]).length=X.length+G.length+1:=by simp only[Δ,length_singleton]
  rw[c]at d
  obtain⟨I,v,K,H⟩:=MS h.bd M U (Y:=Y) (by rw[m,bp _ [gU]];rfl) ο (i:=i) (by rw[F,c,Δ];rfl) p
  obtain⟨b',R',Γ,r,l⟩:=H R R.length n b R [] (aV 0x100e3d09006892000e3d08ff68991189210 [_,_,_] ι d) .nil w
  obtain⟨fe,D,A,Q,P,q,_⟩:=B4 [] r<|aV 0x100e3d090068911892000e3d08ff68991189210 [_,_,_] ι d
  have C:kb fe u<|T::vs:=by
   refine Θ λj=>?_;rcases q with⟨_,q,_⟩|⟨Xl,_,q,Z,e⟩
   ·rw[q]at l;exact(Nat.lt_irrefl _ l).elim
   ·refine j ?_;rw[q];exact .cons g Z e
  have s:=r.anew (R':=fe) A P Q
  obtain⟨V,t,y,S,tC,J,z,O⟩:=B X u h (G++[gU]++Y) v (some<|.list<|zs u) (T::vs) fe _ b' I (by rw[m];simp only[bp]) K s C<|aV 0x100e3d08ff6891911892000e3d08ff68991189210 [_,_,_] ι d
  refine j ?_
  refine⟨V,t,y,S,tC,cD (aa.run (a:=⟨[some<|.ref 0,some x,some<|.list L,some<|.int i,some<|.list<|zs u],aY b R []⟩) [.c Γ,.c D,.c<|w_text (pre:=[]) (k:=0) s rfl<|cN.dE .nil,.v<|pP u u,.F (b:=!(u==u)) (by rw[beq_self_eq_true];rfl)]) J,?_,O⟩
  rw[c]
  exact z.more<|eB 0x100e991189120929118910 [_,_,_] ι
theorem uq(h:ds a=.ok [q] a1)(b:view a1 q=some xs)(c:xs.length<=sizeLine):kJ ds a=.ok xs a1:=by unfold kJ;rw[h];show Res.of ((view a1 q).bind _)=_;rw[b];exact Res.d4 c
inductive Eo(us:List<|List Int)(n:Nat)(b:cG)(R:List ζ)(T:List Int)(p:Int):Prop
 |mk (aF T0 l:_):W aF T0 l n b R T p->((R=aF/\T=T0/\kb aF T0 us)\/∃Tp,us=T0::Tp/\kb aF T0 Tp/\aF.length<R.length)->Eo us n b R T p
inductive OQ(X:cG->List ζ->Prop)(us:List<|List Int)(n:Nat)(T:List Int):Prop
 |mk (jd:cG) (aF:List ζ) (JG:Int):X jd aF->Eo us n jd aF T JG->OQ X us n T
theorem Eo.w{us:List<|List Int}(h:Eo us n b R T p):∃aF T0 l,W aF T0 l n b R T p:=by obtain⟨aF,T0,l,w,_⟩:=h;exact⟨aF,T0,l,w⟩
theorem yH{us:List<|List Int}(t:List Ξ)(h:Eo us n b R T p)(u:n+1<=4000000):∃R',bw 9 "boundary" [.ref 5] (aY b R t)=.ok .none ⟨[],aY b R' t⟩/\W R' T R'.length (n+1) b R' T p/\kb R' T us/\xl R R':=by
 refine Θ λr=>?_;obtain⟨aF,T0,l,w,h⟩:=h;obtain⟨R',e,j,o,m,q,i⟩:=B4 t w u;refine r ⟨R',e,w.anew j m o,?_,i⟩;refine Θ λc=>?_;clear j m o i e r;rcases h with⟨rfl,rfl,g⟩|⟨v,rfl,g,s⟩
 ·rcases q with⟨rfl,_,_⟩|⟨G,f,rfl,k,d⟩
  ·exact c g
  ·exact c<|(d<|append_cancel_left<|f.symm.trans (append_nil _).symm).elim
 ·rcases q with⟨_,rfl,_⟩|⟨G,f,rfl,k,d⟩
  ·exact c<|(Nat.lt_irrefl _ s).elim
  ·exact c<|.cons g k d
theorem Sw{t:List Ξ}(h:Eo us n b R T p)(d:n+n<=3999990)(m:pre.length=k)(h0:cN<|pre++(cu k b R++t)):OQ (λb' R'=>Λ "_law_passed" [.ref k,.list<|aJ us] (pre++(cu k b R++t))=.ok (.bool true) ⟨[],pre++(cu k b' R'++t)⟩) (turn T us []).2 (n+n+2) (turn T us []).1:=by refine Θ λy=>?_;obtain⟨_,_,_,j⟩:=h.w;obtain⟨hJ,w,c,r,_⟩:=yH [] h<|aV 0x120e2183d0900689118000e3d08f668900 [_] ι d;have e:=ll c.c5<|aV 0x120e2183d0900689118000e3d08f668900 [_] ι d;have f:=c.c5;obtain⟨bX,fe,ie,v,u,l,g,s⟩:=age (Y:=[]) (i:=hJ.length) (o:=none) e (.list<|aJ us) us hJ T r [] hJ (n+1) b p (append_nil _).symm rfl c (.nil c.bd T)<|ck 0x100e3d08ff68919118000e91180100e3d08f668900 [_,_] ι d f;refine y ⟨bX,fe,u,?_,fe,_,fe.length,g.more<|aV 0x100e9218911909118100e911810 [_,_] ι f,.inl ⟨rfl,rfl,s⟩⟩;exact wA▸(uJ (x:=[]) (ba (.list<|jA us) cX) j.rows g.rows h0 m (b1 (h:=[.c w,.l (uq (q:=.ref 6) (by kernel_rfl) (by kernel_rfl) e:ku ⟨[some<|.ref 0,some<|.list<|aJ us,none,none,none],aY b hJ []⟩=.ok hJ ⟨[some<|.ref 0,some<|.list<|aJ us,none,none,none],aY b hJ []⟩),.v<|eT e rfl,.s (ip (by kernel_rfl) l:lh (bh 4) hG.d ks ⟨[some<|.ref 0,some<|.list<|aJ us,some<|.list hJ,some<|.int hJ.length,none],aY b hJ []⟩=.ok .next ⟨[some<|.ref 0,some<|.list<|aJ us,some<|.list hJ,ie,v],aY bX fe []⟩)]) (by kernel_rfl) nofun)<|.bool true)
end
theorem jz{t:dP}{m:bL}{r:Res aS}(h:t a=.ok true a)(c:m a=.ok .next a2)(b:c4 t m a2=r):c4 t m a=r:=oh h c b
def iI(A:List Int):Prop:=A.count 10=0
theorem iI.ne{A:List Int}(h:iI<|x::A):x≠10:=λq=>by subst q;exact List.count_eq_zero.mp h<|.head _
theorem iI.tail{A:List Int}(h:iI<|x::A):iI A:=List.count_eq_zero.mpr λq=>List.count_eq_zero.mp h<|.tail _ q
theorem rM:∀A:List Int,t4 (λA1 b=>A=A1++b) (λA1 b=>iI b) λA1 b=>(A1=[]\/∃Z,A1=Z++[10]):=by
 intro e
 induction e with
 |nil=>exact⟨[],[],rfl,rfl,.inl rfl⟩
 |cons x A d=>
  obtain⟨A1,b,rfl,h,q⟩:=d;rcases q with rfl|⟨Z,rfl⟩
  ·by_cases c:x=10
   ·exact⟨[x],b,rfl,h,.inr ⟨[],by rw[c];rfl⟩⟩
   ·exact⟨[],x::b,rfl,by unfold iI;rw[count_cons_of_ne c];exact h,.inl rfl⟩
  ·exact⟨x::(Z++[10]),b,rfl,h,.inr ⟨x::Z,rfl⟩⟩
theorem ph:∀C:List Int,t4 (λB5 hv=>C=B5++hv) (λB5 hv=>iI B5) λB5 hv=>(hv=[]\/∃Z,hv=10::Z):=by
 intro d
 induction d with
 |nil=>exact⟨[],[],rfl,rfl,.inl rfl⟩
 |cons x C c=>
  obtain⟨B5,hv,rfl,h,q⟩:=c;by_cases b:x=10
  ·exact⟨[],x::(B5++hv),rfl,rfl,.inr ⟨B5++hv,by rw[b]⟩⟩
  ·exact⟨x::B5,hv,rfl,by unfold iI;rw[count_cons_of_ne b];exact h,q⟩
variable {A1:List Int}
section
variable {A B5 hv:List Int}{p:Int}
theorem ud(u:ζ)(b:cG)(t:List Ξ):bw 7 "begin" [.ref 0] (aQ u b t)=.ok (.int 1) ⟨[],aQ u b t⟩:=π HO []
theorem Cs(u:ζ)(b:cG)(t:List Ξ):bw 7 "end" [.ref 0] (aQ u b t)=.ok (.int b.fJ) ⟨[],aQ u b t⟩:=π O9 []
theorem R0(h:x≠10):(!(x==10))=true:=by rw[hN h];rfl
theorem Nw(u:ζ)(t:List Ξ)(c:gN b T p)(x:ζ)(k:A1=[]\/∃Z,A1=Z++[10]):∀(W:List Int),iI W->∀(C:List Int) (i:Int),T=A1++(W.reverse++C)->i=A1.length+W.length+1->∃v,v=(A1.length:Int)+1/\
 c4 lJ.d lI.d ⟨[some<|.ref 0,some x,some<|.int i],aQ u b t⟩=.ok .next ⟨[some<|.ref 0,some x,some<|.int v],aQ u b t⟩:=by
 intro l
 induction l with
 |nil=>
  intro _ C i f d;refine⟨i,d,dx ?_⟩;rcases k with rfl|⟨Z,rfl⟩
  ·exact aa.run [.c<|ud u b t,.F<|f5 (p:=i>1) (by rw[d];exact Int.lt_irrefl _),.k]
  ·have e:=o9 u t c (C:=C) (s:=i-1) (by rw[f,bp];rfl) (by rw[d,Δ];exact Int.add_sub_cancel ..);exact aa.run [.c<|ud u b t,.T<|e2 (p:=i>1) (by rw[d,Δ,length_singleton,length_nil];exact(eB 0x107e91189b08b91180118 [_] ι)),.c e,.k,.k]
 |cons w W g=>intro h C i f d;rw[reverse_cons,bp]at f;rw[length_cons]at d;obtain⟨v,j,e⟩:=g h.tail (w::C) (i-1) f<|bP 0x108e91189b1b0a118008e91189b91181b00 [_,_] [_] ι d;have m:=o9 u t c (C:=C) (s:=i-1) (by rw[f,bp];rfl) (by rw[Δ,length_reverse];exact(bP 0x108e9118b910a118008e91189b91181b00 [_,_] [_] ι d));exact⟨v,j,jz (aa.run [.c<|ud u b t,.T<|e2 (p:=i>1)<|bP 0x107e011818e91189b91181b00 [_,_] [_] ι d,.c m,.T<|R0 h.ne,.k]) (aa.run (a':=⟨[some<|.ref 0,some x,some<|.int<|i-1],aQ u b t⟩) []) e⟩
theorem lj(j:A1=[]\/∃Z,A1=Z++[10])(h:iI A)(f:T=A1++(A++C)){i:Int}(d:i=A1.length+A.length+1):∃v,v=(A1.length:Int)+1/\∀u t b p,gN b T p->Λ "line_start" [.ref 0,.int i] (aQ u b t)=.ok (.int v) ⟨[],aQ u b t⟩:=by refine⟨_,rfl,λu t b p c=>?_⟩;obtain⟨v,g,e⟩:=Nw u t c (.int i) j A.reverse (by unfold iI;rw[List.count_reverse];exact h) C i (by rw[List.reverse_reverse];exact f) (by rw[length_reverse];exact d);subst g;exact π xF [.s e]
theorem Np(u:ζ)(t:List Ξ)(c:gN b T p)(x:ζ)(k:hv=[]\/∃Z,hv=10::Z):∀(W:List Int),iI W->∀(A:List Int) (i:Int),T=A++(W++hv)->i=A.length+1->∃v,v=(A.length:Int)+W.length+1/\
 c4 ni.d nh.d ⟨[some<|.ref 0,some x,some<|.int i],aQ u b t⟩=.ok .next ⟨[some<|.ref 0,some x,some<|.int v],aQ u b t⟩:=by
 intro m
 induction m with
 |nil=>
  intro _ A i f d;refine⟨i,by rw[d];rfl,dx ?_⟩;have z:=c.fJ;rcases k with rfl|⟨Z,rfl⟩
  ·exact aa.run [.c<|Cs u b t,.F<|f5 (p:=i<b.fJ) (by rw[f,append_nil,append_nil]at z;exact(cP 0x10ae1008e9118b0118e9118b00 [_] [_,_] ι d z)),.k]
  ·exact aa.run [.c<|Cs u b t,.T<|e2 (p:=i<b.fJ) (by rw[f,Δ,nil_append,length_cons]at z;exact(cP 0x107e1018e9118b9911810108e9118b00 [_,_] [_,_] ι d z)),.c<|o9 u t c f d,.k,.k]
 |cons w W j=>
  intro h A i f d;have z:=c.fJ;have g:T=(A++[w])++(W++hv):=by rw[f,bp];rfl
  obtain⟨v,l,e⟩:=j h.tail (A++[w]) (i+1) g (by rw[Δ,d];rfl);exact⟨v,by rw[l,Δ,length_singleton,length_cons];exact(eB 0x108e91189b91181b091189b1b91180 [_,_] ι),jz (aa.run [.c<|Cs u b t,.T<|e2 (p:=i<b.fJ) (by rw[f,Δ,cons_append,length_cons]at z;exact(cP 0x107e1018e9118b9911810108e9118b00 [_,_] [_,_] ι d z)),.c<|o9 u t c (C:=W++hv) f d,.T<|R0 h.ne,.k]) (aa.run (a':=⟨[some<|.ref 0,some x,some<|.int<|i+ 1],aQ u b t⟩) []) e⟩
theorem nO(f:hv=[]\/∃Z,hv=10::Z)(h:iI C)(g:T=A++(C++hv)){i:Int}(d:i=A.length+1):∃v,v=(A.length:Int)+C.length+1/\∀u t b p,gN b T p->Λ "line_end" [.ref 0,.int i] (aQ u b t)=.ok (.int v) ⟨[],aQ u b t⟩:=by refine⟨_,rfl,λu t b p c=>?_⟩;obtain⟨v,j,e⟩:=Np u t c (.int i) f C h A i g d;subst j;exact π Cu [.s e]
end
theorem b0(x c:Int)(n:Nat):bI x c (n+1)=.int x::bI (x+c) c n:=by
 unfold bI;rw[List.range_succ_eq_map,map_cons,List.map_map];refine congr (congrArg List.cons ?_)<|List.map_congr_left λi y=>?_
 ·rw[show((0:Nat):Int)*c=0 from Int.zero_mul c,Int.add_zero]
 ·show ζ.int (x+((i+1:Nat):Int)*c)=.int (x+c+i*c);rw[natCast_add,Int.add_mul,show((1:Nat):Int)*c=c from Int.one_mul c];exact congrArg ζ.int<|OE 0x108e9192099210 [] [_,_,_] ι
theorem NY(x y:Int):Builtin.Range.rangeSize x y 1=((y-x).toNat:Int):=by
 unfold Builtin.Range.rangeSize;rw[if_pos (by decide),ediv_one];by_cases h:x<y
 ·rw[if_pos h];exact(bP 0x108eb09118a118a1018ea10b0 [_] [_,_] ι<|toNat_of_nonneg<|bP 0x106ea010807e10 [] [_,_] ι h)
 ·rw[if_neg h];exact(aV 0x108eb00812e080 [_] ι<|toNat_of_nonpos<|bP 0x106e08a010ae10 [] [_,_] ι h)
noncomputable def Cx:Int:=2^62
theorem EO:1000000000<Cx:=by decide+kernel
theorem zG(g:-1000000000<=x)(h:x<=1000000000)(e:-1000000000<=y)(f:y<=1000000000):Builtin.Range.small x y 1=true/\Builtin.Range.small x y (-1)=true:=by refine Θ λi=>?_;have b:=EO;have a1:=Int.le_trans (Int.neg_le_neg<|Int.le_of_lt b) g;have a2:x<Cx:=(cP 0x107e1007e13b9aca008806e3b9aca00880 [] [_,_] ι h b);have c:=Int.le_trans (Int.neg_le_neg<|Int.le_of_lt b) e;have d:y<Cx:=(cP 0x107e1007e13b9aca008806e3b9aca00880 [] [_,_] ι f b);exact i ⟨small_one a1 a2 c d,small_down a1 a2 c d⟩
theorem fD{is:List Int}(h:ds a=.ok ps a1)(c:fQ ps=some is)(b:uR is=some (x,y,1))(f:-1000000000<=x)(g:x<=1000000000)(d:-1000000000<=y)(e:y<=1000000000):gj ds a=.ok (bI x 1 (y-x).toNat) a1:=by unfold gj;rw[h];show Res.of ((fQ ps).bind _)=_;rw[c];show Res.of ((uR is).bind _)=_;rw[b];show Res.of (if Builtin.Range.small x y 1=true then if 0<=Builtin.Range.rangeSize x y 1 then some (bI x 1 (Builtin.Range.rangeSize x y 1).toNat,a1)else none else none)=_;rw[if_pos (zG f g d e).1,NY,if_pos<|natCast_nonneg _,toNat_natCast];rfl
theorem uE(h:d a=.ok (.list xs) a1):eh d a=.ok xs a1:=by unfold eh;rw[h];rfl
theorem SU(A C:List Int):fx (zs<|A++C) none (some (A.length:Int))=zs A:=by refine Θ λb=>?_;have h:=D4 [] A C;rw[nil_append,length_nil,Nat.zero_add]at h;exact b h
theorem J6(A C:List Int):fx (zs<|A++C) (some (A.length:Int)) none=zs C:=by refine Θ λb=>?_;have h:=D4 A C [];rw[append_nil]at h;refine b ?_;show((zs<|A++C).drop<|clipAt (zs<|A++C).length A.length).take ((zs<|A++C).length-clipAt (zs<|A++C).length A.length)=_;rw[aZ,gV (by rw[Δ];exact le_add_right _ _),eM,←aZ A,drop_left,Δ,aZ,Nat.add_sub_cancel_left,←aZ C,take_length]
theorem xa{A:List Int}{e:Int}(b:L=A++C)(d:L.length<=sizeLine)(c:e=A.length)(a:aD):ic (.list<|zs L) .none (.int e) a=.ok (.list<|zs A) a:=by subst c;rw[←SU A C,←b];exact Res.d4 (by rw[aZ];exact d)
theorem qg{A:List Int}{s:Int}(b:L=A++C)(d:L.length<=sizeLine)(c:s=A.length)(a:aD):ic (.list<|zs L) (.int s) .none a=.ok (.list<|zs C) a:=by subst c;rw[←J6 A C,←b];exact Res.d4 (by rw[aZ];exact d)
theorem nJ{i:Nat}(h:i<=L.length):∃A C,L=A++C/\A.length=i:=⟨L.take i,L.drop i,(take_append_drop i L).symm,length_take_of_le h⟩
theorem uK{n:Int}(c:n<=16777216)(h0:-16777216<=n)(a:aD):aeX .Mult (.list [.int x]) (.int n) a=.ok (.list<|zs<|List.replicate n.toNat x) a:=by
 refine Θ λe=>?_;have d:=G3;have b:(sizeLine:Int)=16777216:=by decide+kernel
 refine e ?_;rw[←uS];exact(Gf _ _ a).trans<|rN (y8 _ _ a)<|y9 [.int x] n a rfl (Int.le_trans (by decide+kernel:-qc<=-16777216) h0) (fB 0x127e3e8000000981038e3e7fffc1998100000078b027e3e8000000981b026e3e8000000981000000780 [_] [_,_] ι c d b) (by rw[show[ζ.int x].length*n.toNat=n.toNat from Nat.one_mul _];exact Int.toNat_le.mpr<|b.symm▸c)
noncomputable def ib(c x:Int):Int:=if x=9 then(c.fdiv 4+1)*4 else c+1
theorem qf(c x:Int):c<ib c x/\ib c x<=c+4:=by unfold ib;rw[fdiv_eq_ediv_of_nonneg c<|by decide];have b:=mul_ediv_add_emod c 4;have e:=emod_nonneg c (by decide:(4:Int)≠0);have d:=emod_lt_of_pos c (by decide:(0:Int)<4);exact rp (λz=>c<z/\z<=c+4) (λy=>⟨(cP 0x107ed41891180207e418118e291c0418 [] [_,_,_] ι b d),(cP 0x106e94182d4189118006e10808e291c0418 [] [_,_,_] ι b e)⟩) λy=>⟨Int.lt_succ c,(OE 0x106e9418091180 [] [_] ι)⟩
theorem KS(c x:Int)(σ:List Ξ):Λ "column_behind" [.int c,.int x,.int 4] σ=.ok (.int<|ib c x) ⟨[],σ⟩:=by
 by_cases h:x=9
 ·rw[show ib c x=_ from if_pos h];exact π l5 [.T<|I5 h]
 ·rw[show ib c x=_ from if_neg h];exact π l5 [.F<|hN h]
theorem xK(c x:Int):∃b,c<b/\b<=c+4/\∀σ,Λ "column_behind" [.int c,.int x,.int 4] σ=.ok (.int b) ⟨[],σ⟩:=⟨ib c x,(qf c x).1,(qf c x).2,KS c x⟩
noncomputable def je:List Int->Int->Int
 |[],c=>c
 |x::A,c=>je A (ib c x)
theorem H9(x:Int):∀(A:List Int) (c:Int),je (A++[x]) c=ib (je A c) x:=by
 intro d
 induction d with
 |nil=>exactλc=>rfl
 |cons y A b=>exactλc=>b<|ib c y
theorem A8:∀(A:List Int) (c:Int),c+A.length<=je A c/\je A c<=c+4*A.length:=by
 intro f
 induction f with
 |nil=>exactλc=>⟨Int.le_of_eq<|Int.add_zero c,Int.le_of_eq (Int.add_zero c).symm⟩
 |cons x A b=>intro c;obtain⟨g,h⟩:=qf c x;obtain⟨d,e⟩:=b<|ib c x;rw[length_cons];exact⟨(by exact(cP 0x106e29b91180006e29b0107e10 [_] [_,_,_] ι g d):_<=je A (ib c x)),(by exact(cP 0x106e9cb911804181206e9cb04180206e941810 [_] [_,_,_] ι h e):je A (ib c x)<=_)⟩
theorem ER(x y:ζ):∀(A:List Int) (c:Int) (σ:List Ξ) (o:Option ζ),∃bu,ae5 (cE (bh 4) iW.d) (zs A) ⟨[some x,some y,some<|.int 4,some<|.int c,o],σ⟩=.ok .next ⟨[some x,some y,some<|.int 4,some<|.int<|je A c,bu],σ⟩:=by
 intro d
 induction d with
 |nil=>exactλc σ o=>⟨o,rfl⟩
 |cons z A b=>intro c σ o;obtain⟨bu,e⟩:=b (ib c z) σ<|some<|.int z;exact⟨bu,cD (aa.run (a:=⟨[some x,some y,some<|.int 4,some<|.int c,some<|.int z],σ⟩) [.c<|KS c z σ]) e⟩
theorem CC{L A C:List Int}(c:L=A++C)(f:L.length<=sizeLine){i:Int}(b:i=A.length)(σ:List Ξ):Λ "column_at" [.list<|zs L,.int i,.int 4] σ=.ok (.int<|je A 0) ⟨[],σ⟩:=by refine Θ λg=>?_;obtain⟨bu,e⟩:=ER (.list<|zs L) (.int i) A 0 σ none;have d:lh (bh 4) iW.d mn ⟨[some<|.list<|zs L,some<|.int i,some<|.int 4,some<|.int 0,none],σ⟩=_:=ip (uE<|aa.run (a':=⟨[some<|.list<|zs L,some<|.int i,some<|.int 4,some<|.int 0,none],σ⟩) [.v<|xa c f b]) e;exact g<|π z7 [.s d]
theorem Pk{A:List Int}(d:L=A++C)(e:L.length<=sizeLine){i:Int}(b:i=A.length):∃c,(A.length:Int)<=c/\c<=4*A.length/\∀σ,Λ "column_at" [.list<|zs L,.int i,.int 4] σ=.ok (.int c) ⟨[],σ⟩:=by have:=A8 A 0;exact⟨je A 0,(bP 0x106e0b006e09b008 [_] [_] ι this.1),(bP 0x106ecb0418006e9cb0418080 [_] [_] ι this.2),CC d e b⟩
theorem sH(b:L.length<=sizeLine):∃c,0<=c/\c<=4*(L.length:Int)/\∀σ,Λ "row_columns" [.list<|zs L,.int 4] σ=.ok (.int c) ⟨[],σ⟩:=by obtain⟨c,d,f,e⟩:=Pk (append_nil L).symm b rfl;exact⟨c,(bP 0x106e00806e0b0 [_] [_] ι d),f,λσ=>π wF [.v<|lenZ b,.c<|e σ]⟩
theorem Sv(L:List Int)(z:L.length<=5000000)(c:Int):∀(k i:Nat) (b:Int),i+k=L.length->(i:Int)<=b->((i:Int)<=c\/i=0)->oX (λ(q:Nat)=>q<=L.length) (λ(q:Nat)=>((q:Int)<=c\/q=0)) (λ(q:Nat)=>∀σ o,(∃ρ,ae5 (cE (bh 4) hn.d) (bI i 1 k) ⟨[some<|.list<|zs L,some<|.int c,some<|.int 4,some<|.int b,o],σ⟩=.ok (.ret<|.int q) ⟨ρ,σ⟩)\/(q=L.length/\∃h bu,ae5 (cE (bh 4) hn.d) (bI i 1 k) ⟨[some<|.list<|zs L,some<|.int c,some<|.int 4,some<|.int b,o],σ⟩=.ok .next ⟨[some<|.list<|zs L,some<|.int c,some<|.int 4,h,bu],σ⟩)):=by
 intro v
 induction v with
 |zero=>exactλi b d j l=>⟨i,Nat.le_of_eq d,l,λσ o=>.inr ⟨d,_,o,rfl⟩⟩
 |succ k r=>
  intro i b d j l;by_cases q:b>=c
  ·exact⟨i,(aV 0x100e2002e29911810 [_,_,_] ι d),l,λσ o=>.inl ⟨[some<|.list<|zs L,some<|.int c,some<|.int 4,some<|.int b,some<|.int i],by rw[b0];exact uy<|aa.run (a:=⟨[some<|.list<|zs L,some<|.int c,some<|.int 4,some<|.int b,some<|.int i],σ⟩) [.T<|e2 q]⟩⟩
  ·obtain⟨A,C,m,g⟩:=nJ (i:=i)<|aV 0x100e2002e29911810 [_,_,_] ι d;cases C with
   |nil=>rw[m,append_nil]at d;exact absurd g<|ck 0x125e3e8380222e3e9380202e29911810 [_,_,_] ι d g
   |cons x C=>
    obtain⟨n,s,B,e⟩:=xK b x;obtain⟨t,u,w,H⟩:=r (i+1) n (aV 0x102e2919118002e29911810 [_,_,_] ι d) (cP 0x106e1b9118007e1006e0b0 [_] [_,_] ι j s)<|.inl<|cP 0x106e1b9118009e0106e0b0 [_] [_,_] ι j q;refine⟨t,u,w,λσ o=>?_⟩;have p:cE (bh 4) hn.d (.int i) ⟨[some<|.list<|zs L,some<|.int c,some<|.int 4,some<|.int b,o],σ⟩=.ok .next ⟨[some<|.list<|zs L,some<|.int c,some<|.int 4,some<|.int n,some<|.int i],σ⟩:=aa.run (a:=⟨[some<|.list<|zs L,some<|.int c,some<|.int 4,some<|.int b,some<|.int i],σ⟩) [.F<|f5 q,.v (gJ (mq m) (bb (by rw[aZ];exact(aV 0x100e80001068000e4c4b40680 [_] ι z)))<|by rw[aZ,g]),.c<|e σ];rw[b0];rcases H σ (some<|.int i)with⟨ρ,f⟩|⟨y,h,bu,f⟩
    ·exact .inl ⟨ρ,cD p f⟩
    ·exact .inr ⟨y,h,bu,cD p f⟩
theorem BR{L:List Int}(f:L.length<=5000000)(c:Int):oX (λ(q:Nat)=>q<=L.length) (λ(q:Nat)=>((q:Int)<=c\/q=0)) (λ(q:Nat)=>∀σ,Λ "place_at" [.list<|zs L,.int c,.int 4] σ=.ok (.int q) ⟨[],σ⟩):=by
 obtain⟨q,g,h,H⟩:=Sv L f c L.length 0 0 (Nat.zero_add _) (Int.le_refl _)<|.inr rfl;refine⟨q,g,h,λσ=>?_⟩;have hz:=bb<|Nat.le_trans f (by decide:5000000<=8388624);have d:nj ⟨[some<|.list<|zs L,some<|.int c,some<|.int 4,some<|.int 0,none],σ⟩=.ok (bI 0 1 (L.length-0:Int).toNat) ⟨[some<|.list<|zs L,some<|.int c,some<|.int 4,some<|.int 0,none],σ⟩:=fD (aa.run (m:=γ (aH a9<|γ ν ε) ε) (b:=[.int L.length]) [.v<|lenZ hz]) rfl rfl (by decide) (by decide) (eB 0x106eb0a3b9aca008808 [_] ι)<|aV 0x106e3b9aca0088b000e4c4b40680 [_] ι f;rw[Int.sub_zero,toNat_natCast]at d;rcases H σ none with⟨ρ,e⟩|⟨rfl,i,bu,e⟩
 ·exact π sD [.s<|ip d e]
 ·exact π sD [.s<|ip d e,.v<|lenZ hz]
theorem ab7(h:x≠9):(!(x==9))=true:=by rw[hN h];rfl
theorem JL(m:L.length<=5000000){c:Int}(z:c<=160):∃u:List Int,u.length<=L.length+3/\∀σ,Λ "opened" [.list<|zs L,.int c,.int 4] σ=.ok (.list<|zs u) ⟨[],σ⟩:=by
 refine Θ λo=>?_;obtain⟨q,y,F,e⟩:=BR m c;have hz:=bb<|Nat.le_trans m (by decide:5000000<=8388624);obtain⟨A,C,h,b⟩:=nJ y;rcases eq_nil_or_concat A with rfl|⟨B,x,rfl⟩
 ·cases b;exact o ⟨L,le_add_right _ _,λσ=>π nE [.c<|e σ,.k,.k]⟩
 ·rw[concat_eq_append]at h b;rw[Δ,length_singleton]at b;have g:L=B++x::C:=by rw[h,bp];rfl
  have r:((q:Int)==0)=false:=hN<|aV 0x12be3e83808b102e191180 [_,_] ι b;have s:=gJ (k:=(q:Int)-1) (mq g) (by rw[aZ];exact hz) (by rw[aZ];exact(aV 0x108eb0a118b112e191180 [_,_] ι b));by_cases v:x=9
  ·subst v;have l:=CC h hz (by rw[Δ,length_singleton,b]);have w:=CC g hz (i:=(q:Int)-1)<|aV 0x108eb0a118b112e191180 [_,_] ι b;rw[H9]at l;have d:=qf (je B 0) 9;have D:=A8 B 0;generalize ib (je B 0) 9=f at*;generalize je B 0=j at*;by_cases t:f<=c
   ·exact o ⟨L,le_add_right _ _,λσ=>π nE [.c<|e σ,.F r,.v s,.k,.c<|l σ,.T<|e2 t,.k]⟩
   ·have E:B.length+1=q:=b;have p:L.length=B.length+(C.length+1):=by rw[g,Δ,length_cons]
    refine o ?_;refine⟨B++List.replicate (f-j).toNat 32++C,by simp only[Δ,length_replicate];exact(fB 0x100e931809293108ea10b312e9911821006e941810 [_,_,_,_] [_,_] ι d.2 p<|toNat_of_nonneg<|bP 0x106ea010807e10 [] [_,_] ι d.1),λσ=>π nE [.c<|e σ,.F r,.v s,.k,.c<|l σ,.F<|f5 t,.k,.c<|w σ,.c<|l σ,.v<|xa g hz (e:=(q:Int)-1)<|aV 0x108eb0a118b112e191180 [_,_] ι b,.v<|uK (x:=32) (n:=f-j) (bP 0x106e100000078a1006e941810 [] [_,_] ι d.2)<|bP 0x106ea01a1000000780807e10 [] [_,_] ι d.1,.v<|gS (L:=B) (M:=List.replicate (f-j).toNat 32) (bb (by rw[length_replicate];exact(oJ 0x100e8000106893108ea10b312e9911821006e94181000e4c4b40680 [_,_,_,_] [_,_] ι m d.2 p<|toNat_of_nonneg<|bP 0x106ea010807e10 [] [_,_] ι d.1))) rfl,.v (qg h hz<|by rw[Δ,length_singleton,b]),.v<|gS (L:=B++List.replicate (f-j).toNat 32) (M:=C) (bb (by rw[Δ,length_replicate];exact(oJ 0x100e800010689293108ea10b312e9911821006e94181000e4c4b40680 [_,_,_,_] [_,_] ι m d.2 p<|toNat_of_nonneg<|bP 0x106ea010807e10 [] [_,_] ι d.1))) rfl]⟩
  ·exact o ⟨L,le_add_right _ _,λσ=>π nE [.c<|e σ,.F r,.v s,.T<|ab7 v,.k]⟩
theorem zk(f:L.length<=5000000){c:Int}(g:c<=160):∃d:List Int,d.length<=L.length+160/\∀σ,Λ "padded" [.list<|zs L,.int c,.int 4] σ=.ok (.list<|zs d) ⟨[],σ⟩:=by refine Θ λi=>?_;have hz:=bb<|Nat.le_trans f (by decide:5000000<=8388624);obtain⟨w,h,j,e⟩:=sH hz;have b:fm 0 (c-w)<=160/\0<=fm 0 (c-w):=⟨DB (·<=160) (by decide)<|cP 0x106ea028a1006e10806ea0280 [] [_,_] ι g h,RT 0 _⟩;refine i ?_;exact⟨L++List.replicate (fm 0<|c-w).toNat 32,by rw[Δ,length_replicate];exact(cP 0x100e9a028190108e0b006ea0280 [_,_] [_] ι b.1<|toNat_of_nonneg<|bP 0x106e00806e008 [] [_] ι b.2),λσ=>π HV [.c<|e σ,.v<|uK (x:=32) (n:=fm 0<|c-w) (bP 0x106e100000078006ea0280 [] [_] ι b.1)<|bP 0x106e0a1000000780806e008 [] [_] ι b.2,.v<|gS (L:=L) (M:=List.replicate (fm 0<|c-w).toNat 32) (bb (by rw[length_replicate];exact(fB 0x100e8000106891008e0b106ea028000e4c4b40680 [_,_] [_] ι f b.1<|toNat_of_nonneg<|bP 0x106e00806e008 [] [_] ι b.2))) rfl]⟩
theorem qx(g:L.length<=4000000){c:Int}(i:c<=160):t4 (λ(F G:List Int)=>F.length<=160) (λ(F G:List Int)=>F.length+G.length<=L.length+3) (λ(F G:List Int)=>∀σ,Λ "cut_at" [.list<|zs L,.int c,.int 4] σ=.ok (.tup [.list<|zs F,.list<|zs G]) ⟨[],σ⟩):=by refine Θ λo=>?_;obtain⟨l,f,m⟩:=JL (Nat.le_trans g<|by decide) i;obtain⟨q,n,k,j⟩:=BR (Nat.le_trans f<|aV 0x100e4c4b40689318000e3d0900680 [_] ι g) c;have hz:l.length<=sizeLine:=bb<|ck 0x100e80001068100e93180100e3d0900680 [_,_] ι g f;obtain⟨F,G,e,d⟩:=nJ n;have b:=congrArg length e;rw[Δ]at b;refine o ?_;exact⟨F,G,by rw[d];exact k.elim (λh=>ofNat_le.mp<|Int.le_trans h i) λh=>h▸zero_le _,(ck 0x100e9318193212e932000e931810 [_,_,_,_] ι f b),λσ=>π HS [.c<|m σ,.c<|j σ,.v (xa e hz<|by rw[d]),.v<|qg e hz<|by rw[d]]⟩
theorem pR(j:L.length<=4000000)(h:x<=160)(d:y<=160):Ox (λ(F M G:List Int)=>F.length<=160) (λ(F M G:List Int)=>M.length<=163) (λ(F M G:List Int)=>G.length<=L.length+3) (λ(F M G:List Int)=>∀σ,Λ "cut_between" [.list<|zs L,.int x,.int y,.int 4] σ=.ok (.tup [.list<|zs F,.list<|zs M,.list<|zs G]) ⟨[],σ⟩):=by refine Θ λk=>?_;obtain⟨F,G,b,i,g⟩:=qx j d;obtain⟨H,M,e,f,c⟩:=qx (Nat.le_trans b<|by decide) h;exact k ⟨H,M,G,e,(ck 0x100ea328200e9318092100ea0280 [_,_,_] ι b f),(aV 0x100e93182100e93182910 [_,_,_] ι i),λσ=>π wD [.c<|g σ,.c<|c σ]⟩
theorem yb{i:Nat}{L:List ζ}{v:ζ}(c:∀a,view a v=some ys)(d:L.length+ys.length<=sizeLine)(a:aD)(b:a.σ[i]?=some (.lst L)):Res.of (((a.σ[i]?).bind dv).bind λxs=>rR a i xs v)=.ok .none ⟨a.ρ,a.σ.set i<|.lst<|L++ys⟩:=by rw[b];show Res.of ((view a v).bind _)=_;rw[c];exact Res.d4 d
theorem Fj{t:List Ξ}:jJ [] (.lst (zs L)::t) (.ref 0)<|.list<|zs L:=.lst rfl rfl rfl λi x y b c=>by cases b.symm.trans c;exact .old<|.data<|fp L x<|List.mem_of_getElem? b
theorem SN(x y:ζ):∀(A F:List Int) (c:Int),F.length+4*A.length<=8000000->∃d:List Int,d.length<=F.length+4*A.length/\∀o bu,∃ρ,ae5 (cE (bh 5) ha.d) (zs A) ⟨[some x,some y,some<|.int 4,some<|.ref 0,some<|.int c,o,bu],[.lst<|zs F]⟩=.ok .next ⟨some x::some y::some (.int 4)::some (.ref 0)::ρ,[.lst<|zs d]⟩:=by
 intro p
 induction p with
 |nil=>exactλF c w=>⟨F,Nat.le_refl _,λo bu=>⟨_,rfl⟩⟩
 |cons z A l=>
  intro F c h;obtain⟨b,f,g,k⟩:=xK c z;rw[length_cons]at h;have go:∀D:List Int,D.length<=4->(∀o bu,cE (bh 5) ha.d (.int z) ⟨[some x,some y,some<|.int 4,some<|.ref 0,some<|.int c,o,bu],[.lst<|zs F]⟩=.ok .next ⟨[some x,some y,some<|.int 4,some<|.ref 0,some<|.int b,some<|.int z,some<|.int b],[.lst<|zs<|F++D]⟩)->∃d:List Int,d.length<=F.length+4*(z::A).length/\∀o bu,∃ρ,ae5 (cE (bh 5) ha.d) (zs<|z::A) ⟨[some x,some y,some<|.int 4,some<|.ref 0,some<|.int c,o,bu],[.lst<|zs F]⟩=.ok .next ⟨some x::some y::some (.int 4)::some (.ref 0)::ρ,[.lst<|zs d]⟩:=λD j e=>by obtain⟨d,i,H⟩:=l (F++D) b (by rw[Δ];exact(ck 0x100e7a1200689c141892000e418200e7a1200689c911814180 [_,_,_] ι h j));refine⟨d,by rw[Δ]at i;rw[length_cons];exact(ck 0x100e9c911834182100e9c3418902100e4180 [_,_,_,_] ι j i),λo bu=>?_⟩;obtain⟨ρ,m⟩:=H (some<|.int z)<|some<|.int b;exact⟨ρ,cD (e o bu) m⟩
  have q:(zs F).length<=sizeLine:=by rw[aZ];exact bb<|aV 0x100e80001068000e7a1200689c911814180 [_,_] ι h
  by_cases hz:z=9
  ·refine go (List.replicate (b-c).toNat 32) (by rw[length_replicate];exact(cP 0x100e418008ea10b006e941810 [_] [_,_] ι g<|toNat_of_nonneg<|bP 0x106ea010807e10 [] [_,_] ι f)) λo bu=>?_;rw[eM];exact aa.run (a:=⟨[some x,some y,some<|.int 4,some<|.ref 0,some<|.int c,some<|.int z,bu],[.lst<|zs F]⟩) [.c<|k [.lst<|zs F],.T<|I5 hz,.v<|uK (x:=32) (n:=b-c) (bP 0x106e100000078a1006e941810 [] [_,_] ι g)<|bP 0x106ea01a1000000780807e10 [] [_,_] ι f,.u 0<|yb (L:=zs F) (ys:=zs<|List.replicate (b-c).toNat 32) (v:=.list<|zs<|List.replicate (b-c).toNat 32) (λw=>rfl) (by rw[aZ,aZ,length_replicate];exact bb<|fB 0x100e8000106892008ea10b206e94181000e7a1200689c911814180 [_,_,_] [_,_] ι h g<|toNat_of_nonneg<|bP 0x106ea010807e10 [] [_,_] ι f)]
  ·refine go [z] (show 1<=4 by decide) λo bu=>?_;rw[eM];exact aa.run (a:=⟨[some x,some y,some<|.int 4,some<|.ref 0,some<|.int c,some<|.int z,bu],[.lst<|zs F]⟩) [.c<|k [.lst<|zs F],.F<|hN hz,.u 0<|iL (v:=.int z) q]
theorem JM{L:List Int}(f:L.length<=1000000)(c:Int):∃F:List Int,F.length<=4*L.length/\∀σ,cN σ->Λ "spread" [.list<|zs L,.int c,.int 4] σ=.ok (.list<|zs F) ⟨[],σ⟩:=by obtain⟨F,b,H⟩:=SN (.list<|zs L) (.int c) L [] c (by rw[length_nil];exact(aV 0x100e7a1200689c04180820e418f4240580 [_] ι f));refine⟨F,by rw[length_nil,Nat.zero_add]at b;exact b,λσ h0=>?_⟩;obtain⟨ρ,e⟩:=H none none;rw[HW];have d:lh (bh 5) ha.d p4 ⟨[some<|.list<|zs L,some<|.int c,some<|.int 4,some<|.ref 0,some<|.int c,none,none],[.lst<|zs []]⟩=.ok .next ⟨some (.list<|zs L)::some (.int c)::some (.int 4)::some (.ref 0)::ρ,[.lst<|zs F]⟩:=ip (by kernel_rfl) e;exact ae3 h0 (b1 (h:=[.s d]) (by kernel_rfl) nofun) (ba (.zs L)<|fp [c,4])<|Fj (t:=[])
theorem YM{b:Int}(c:n<=k)(d:b<=k):n+(b-n).toNat<=k:=Nat.le_trans (Nat.add_le_add_left (Int.toNat_le.mpr<|ofNat_sub c▸Int.sub_le_sub_right d n) n)<|Nat.le_of_eq<|Nat.add_sub_cancel' c
theorem Av(l:L.length<=4000000)(h0:0<=x)(f:x<=160)(b:y<=160)(h:0<=y):∃e:List Int,e.length<=812/\∀σ,cN σ->Λ "extracted" [.list<|zs L,.int x,.int y,.int 4] σ=.ok (.list<|zs e) ⟨[],σ⟩:=by refine Θ λm=>?_;obtain⟨F,M,G,p,g,o,k⟩:=pR l f b;obtain⟨S,j,i⟩:=JM (Nat.le_trans g<|by decide) x;have c:S.length<=652:=(ck 0x100e28c38100ec0418120e418a3280 [_,_] ι g j);refine m ?_;have d:S.length+(y-x-S.length).toNat<=812:=YM (Nat.le_trans c<|by decide)<|cP 0x106eb32c38a0106ea028106e008 [] [_,_] ι h0 b;exact⟨S++List.replicate (y-x-S.length).toNat 32,by rw[Δ,length_replicate];exact d,λσ q=>π z9 [.c<|k σ,.c<|i σ q,.v (lenZ<|bb<|Nat.le_trans c<|by decide),.v<|uK (x:=32) (n:=y-x-S.length) (cP 0x106e100000078ab0a0106ea028106e008 [_] [_,_] ι h0 b)<|fB 0x106eab0a01a1000000780800e28c38006e10806ea0280 [_] [_,_] ι f h c,.v<|gS (L:=S) (M:=List.replicate (y-x-S.length).toNat 32) (bb (by rw[length_replicate];exact Nat.le_trans d<|by decide)) rfl]⟩
theorem JK(b:L.length<=4000000)(j:x<=160)(h:y<=160):∃e:List Int,e.length<=L.length+800/\∀σ,Λ "erased" [.list<|zs L,.int x,.int y,.int 4] σ=.ok (.list<|zs e) ⟨[],σ⟩:=by
 refine Θ λg=>?_;obtain⟨w,_,_,d⟩:=sH (bb<|Nat.le_trans b<|by decide);obtain⟨F,M,G,f,k,c,i⟩:=pR b j h;by_cases q:w<=x
 ·exact g ⟨L,le_add_right _ _,λσ=>π xE [.c<|d σ,.T<|e2 q]⟩
 ·refine g ?_;exact⟨F++G,by rw[Δ];exact(ck 0x100e932038291000e93182100ea0280 [_,_,_] ι f c),λσ=>π xE [.c<|d σ,.F<|f5 q,.c<|i σ,.v<|gS (bb<|hB 0x100e8000106892100e93180200ea028100e3d0900680 [_,_,_] ι b f c) rfl]⟩
theorem Aw(c:L.length<=4000000)(h0:0<=x)(g:x<=160)(d:y<=160)(j:0<=y):∃f:List Int,f.length<=L.length+800/\∀σ,Λ "opened_up" [.list<|zs L,.int x,.int y,.int 4] σ=.ok (.list<|zs f) ⟨[],σ⟩:=by
 refine Θ λi=>?_;obtain⟨w,_,_,e⟩:=sH (bb<|Nat.le_trans c<|by decide);obtain⟨F,G,l,h,k⟩:=qx c g;by_cases q:w<=x
 ·exact i ⟨L,le_add_right _ _,λσ=>π q8 [.c<|e σ,.T<|e2 q]⟩
 ·refine i ?_;have b:(y-x).toNat<=160:=Int.toNat_le.mpr<|cP 0x106eba028a0106ea028106e008 [] [_,_] ι h0 d;exact⟨F++List.replicate (y-x).toNat 32++G,by simp only[Δ,length_replicate];exact(ck 0x100e93203829193000ea028300e93182910 [_,_,_,_] ι h b),λσ=>π q8 [.c<|e σ,.F<|f5 q,.c<|k σ,.v<|uK (x:=32) (n:=y-x) (cP 0x106e100000078a0106ea028106e008 [] [_,_] ι h0 d)<|cP 0x106ea01a1000000780806e10806ea0280 [] [_,_] ι g j,.v<|gS (L:=F) (M:=List.replicate (y-x).toNat 32) (bb (by rw[length_replicate];exact(ck 0x100e8000106891000ea028100ea0280 [_,_] ι l b))) rfl,.v<|gS (L:=F++List.replicate (y-x).toNat 32) (bb (by simp only[Δ,length_replicate];exact(hB 0x100e800010689293100ea028300e9318092100e3d0900680 [_,_,_,_] ι c h b))) rfl]⟩
theorem DM{D:List Int}(d:L.length<=3500000)(b:D.length<=2)(g:x<=160)(h:y<=160):∃f:List Int,f.length<=L.length+980/\∀σ,Λ "replaced" [.list<|zs L,.int x,.int y,.list<|zs D,.int 4] σ=.ok (.list<|zs f) ⟨[],σ⟩:=by refine Θ λk=>?_;obtain⟨P,h0,i⟩:=zk (Nat.le_trans d<|by decide) g;obtain⟨F,M,G,c,l,e,j⟩:=pR (ck 0x100e3d090068100e9a0280100e3567e0680 [_,_] ι d h0) g h;refine k ?_;exact⟨F++D++G,by simp only[Δ];exact(nB 0x100e93d43829490300e93181400ea028300e9a0282100e2180 [_,_,_,_,_] ι b h0 c e),λσ=>π Cw [.c<|i σ,.c<|j σ,.v<|gS (bb<|ck 0x100e8000106890100ea028100e2180 [_,_] ι b c) rfl,.v<|gS (M:=G) (bb (by rw[Δ];exact(HF 0x100e800010689491300e93182400ea028300e9a0280200e218100e3567e0680 [_,_,_,_,_] ι d b h0 c e))) rfl]⟩
theorem zl{D:List Int}(c:L.length<=3500000)(b:D.length<=812)(e:x<=160):∃d:List Int,d.length<=L.length+980/\∀σ,Λ "put_in_rectcols" [.list<|zs L,.int x,.list<|zs D,.int 4] σ=.ok (.list<|zs d) ⟨[],σ⟩:=by refine Θ λj=>?_;obtain⟨P,h0,g⟩:=zk (Nat.le_trans c<|by decide) e;obtain⟨F,G,i,f,h⟩:=qx (ck 0x100e3d090068100e9a0280100e3567e0680 [_,_] ι c h0) e;refine j ?_;exact⟨F++D++G,by simp only[Δ];exact(hB 0x100e93d43829490300e9318194300e9a0282100e32c380 [_,_,_,_,_] ι b h0 f),λσ=>π qG [.c<|g σ,.c<|h σ,.v<|gS (bb<|ck 0x100e8000106890100ea028100e32c380 [_,_] ι b i) rfl,.v<|gS (M:=G) (bb (by rw[Δ];exact(nB 0x100e800010689491300e9318294300e9a0280200e32c38100e3567e0680 [_,_,_,_,_] ι c b h0 f))) rfl]⟩
noncomputable def er:List (List Int)->Nat
 |[]=>0
 |u::us=>u.length+1+er us
theorem k0:∀us vs:List<|List Int,er (us++vs)=er us+er vs:=by
 intro c
 induction c with
 |nil=>exactλvs=>(Nat.zero_add _).symm
 |cons u us b=>intro vs;show u.length+1+er (us++vs)=u.length+1+er us+er vs;rw[b vs];exact(eB 0x102e929191180992191180 [_,_,_] ι)
theorem BZ:∀us:List<|List Int,us.length<=er us:=by
 intro c
 induction c with
 |nil=>exact Nat.le_refl _
 |cons u us b=>have:=b;exact(aV 0x100e91911829118000e10 [_,_,_] ι this)
theorem a0(us:List<|List Int):(aJ us).length=us.length:=length_map ..
theorem lU{D E:List<|List Int}{u:List Int}(h:us=D++u::E):aJ us=aJ D++.list (zs u)::aJ E:=by subst h;exact List.map_append ..
theorem S8(us:List<|List Int)(l:us.length<=4000000):∀(E D:List<|List Int) (F:List Int),us=D++E->F.length+er E<=8000000->∃b:List Int,b.length<=F.length+er E/\∀o,∃bu,ae5 (cE (bh 2) h6.d) (bI D.length 1 E.length) ⟨[some<|.list<|aJ us,some<|.ref 0,o],[.lst<|zs F]⟩=.ok .next ⟨[some<|.list<|aJ us,some<|.ref 0,bu],[.lst<|zs b]⟩:=by
 intro m
 induction m with
 |nil=>exactλD F x x=>⟨F,Nat.le_refl _,λo=>⟨o,rfl⟩⟩
 |cons u E f=>
  intro D F c h
  have κ:=h
  have hz:(aJ us).length<=sizeLine:=by rw[a0];exact bb<|aV 0x100e80001068000e3d0900680 [_] ι l
  have k:=gJ (lU c) hz (by rw[a0])
  have go:∀G:List Int,G.length<=F.length+1->(∀o,cE (bh 2) h6.d (.int D.length) ⟨[some<|.list<|aJ us,some<|.ref 0,o],[.lst<|zs F]⟩=.ok .next ⟨[some<|.list<|aJ us,some<|.ref 0,some<|.int D.length],[.lst<|zs<|G++u]⟩)->∃b:List Int,b.length<=F.length+er (u::E)/\∀o,∃bu,ae5 (cE (bh 2) h6.d) (bI D.length 1 (u::E).length) ⟨[some<|.list<|aJ us,some<|.ref 0,o],[.lst<|zs F]⟩=.ok .next ⟨[some<|.list<|aJ us,some<|.ref 0,bu],[.lst<|zs b]⟩:=λG j e=>by obtain⟨b,i,H⟩:=f (D++[u]) (G++u) (by rw[c,bp];rfl) (by rw[Δ];exact(ck 0x100e7a1200689291300e91180300e7a120068992911810 [_,_,_,_] ι κ j));refine⟨b,by rw[Δ]at i;show _<=F.length+(u.length+1+er E);exact(ck 0x100e994911831200e94930200e911810 [_,_,_,_,_] ι j i),λo=>?_⟩;obtain⟨bu,g⟩:=H<|some<|.int D.length;rw[Δ]at g;exact⟨bu,by rw[length_cons,b0];exact cD (e o) g⟩
  have n:(zs F).length<=sizeLine:=by rw[aZ];exact bb<|aV 0x100e80001068000e7a120068910 [_,_] ι h
  clear l hz f c
  cases D with
  |nil=>exact go F (le_succ _) λo=>by rw[eM];exact aa.run (a:=⟨[some<|.list<|aJ us,some<|.ref 0,some<|.int 0],[.lst<|zs F]⟩) [.k,.v k,.u 0<|yb (L:=zs F) (v:=.list<|zs u) (λx=>rfl) (by rw[aZ,aZ];exact bb<|aV 0x100e8000106891000e7a120068992911810 [_,_,_] ι κ)]
  |cons d D=>exact go (F++[10]) (by rw[Δ];exact Nat.le_refl _) λo=>by rw[eM,eM];exact aa.run (a:=⟨[some<|.list<|aJ us,some<|.ref 0,some<|.int (d::D).length],[.lst<|zs F]⟩) [.T<|e2 (p:=((d::D).length:Int)>0)<|natCast_pos.mpr<|succ_pos _,.u 0<|iL (v:=.int 10) n,.v k,.u 0<|yb (L:=zs F++zs [10]) (v:=.list<|zs u) (λx=>rfl) (by rw[Δ,aZ,aZ,aZ];exact bb (by rw[length_singleton];exact(aV 0x100e80001068919118000e7a120068992911810 [_,_,_] ι κ)))]
theorem v7(h:er us<=4000000):∃F:List Int,F.length<=er us/\∀σ,cN σ->Λ "text_of" [.list<|aJ us] σ=.ok (.list<|zs F) ⟨[],σ⟩:=by
 refine Θ λg=>?_;have c:=Nat.le_trans (BZ us) h;obtain⟨F,f,H⟩:=S8 us c us [] [] rfl (by rw[length_nil];exact(aV 0x100e7a120068900800e3d0900680 [_] ι h));refine g ?_;refine⟨F,by rw[length_nil,Nat.zero_add]at f;exact f,λσ h0=>?_⟩;obtain⟨bu,e⟩:=H none
 have d:oH ⟨[some<|.list<|aJ us,some<|.ref 0,none],[.lst<|zs []]⟩=.ok (bI 0 1 (us.length-0:Int).toNat) ⟨[some<|.list<|aJ us,some<|.ref 0,none],[.lst<|zs []]⟩:=
  fD (aa.run (m:=γ (aH a9<|γ ν ε) ε) (b:=[.int us.length]) [.v<|eT (by rw[a0];exact bb<|aV 0x100e80001068000e3d0900680 [_] ι c)<|by rw[a0]]) rfl rfl (by decide) (by decide) (eB 0x106eb0a3b9aca008808 [_] ι) (aV 0x106e3b9aca0088b000e3d0900680 [_] ι c)
 rw[Int.sub_zero,toNat_natCast]at d;rw[EM];exact ae3 h0 (b1 (h:=[.s<|ip d e]) (by kernel_rfl) nofun) (ba (.list<|jA us) cX)<|Fj (t:=[])
noncomputable def rt:Nat->Nat
 |0=>0
 |j+1=>j+2
def refs(n:Nat):List ζ:=(List.range n).map λj=>.ref<|rt j
theorem v8(n:Nat):refs (n+1)=refs n++[.ref<|rt n]:=by unfold refs;rw[List.range_succ,List.map_append];rfl
theorem ju(n:Nat):(refs n).length=n:=by unfold refs;rw[length_map,length_range]
structure xw(σ:List Ξ)(rs:List<|List Int):Prop where
 len:σ.length=rs.length+1
 vr:σ[1]?=some (.lst<|refs rs.length)
 row:∀(j:Nat) u,rs[j]?=some u->σ[rt j]?=some (.lst<|zs u)
theorem xT{f:aD->Nat->List ζ->ζ->Option (ζ×aD)}{v:ζ}{q:ζ×aD}(g:d a=.ok (.ref k) a)(h:a.σ[k]?=some (.lst xs))(b:de a=.ok v a1)(c:a1.σ[k]?=some (.lst ys))(e:f a1 k ys v=some q):pj d de f a=.ok q.1 q.2:=by unfold pj;rw[g];show(Res.of<|((a.σ[k]?).bind dv).bind λx=>some (k,a)).bind _=_;rw[h];show(de a).bind _=_;rw[b];show Res.of (((a1.σ[k]?).bind dv).bind λxs=>f a1 k xs v)=_;rw[c];show Res.of (f a1 k ys v)=_;rw[e];rfl
theorem GD{T:aa Bool}{A B:aa ζ}{b:Bool}(c:T.d a=.ok b a)(h:(if b then A.d a else B.d a)=.ok q a1):(δ (bF T (δ (az A) θ)<|δ (az B) θ) θ).d a=.ok .next a1:=by
 show((T.d a).bind λb a=>if b then(δ (az A) θ).d a else(δ (az B) θ).d a).bind _=_
 rw[c]
 clear c
 cases b with
 |true=>show(((A.d a).bind λx a=>.ok aS.next a).bind _).bind _=_;rw[show A.d a=_ from h];rfl
 |false=>show(((B.d a).bind λx a=>.ok aS.next a).bind _).bind _=_;rw[show B.d a=_ from h];rfl
theorem FX(j:Nat):rt j≠1:=by
 cases j with
 |zero=>decide
 |succ j=>exactλq=>nomatch Nat.succ.inj q
theorem Nf{i j:Nat}(h:rt i=rt j):i=j:=by
 cases i with
 |zero=>cases j with
  |zero=>rfl
  |succ j=>exact nomatch h
 |succ i=>cases j with
  |zero=>exact nomatch h
  |succ j=>exact congrArg (·+1)<|Nat.add_right_cancel h
theorem FW{j:Nat}(h:j<n):rt j<n+1:=by
 cases j with
 |zero=>exact succ_pos _
 |succ j=>exact succ_lt_succ h
theorem xw.nl{rs:List<|List Int}(h:xw σ rs)(b:rs≠[]):xw ((σ++[Ξ.lst []]).set 1<|Ξ.lst<|refs rs.length++[ζ.ref σ.length])<|rs++[[]]:=by
 refine Θ λf=>?_;obtain⟨n,b⟩:∃n,rs.length=n+1:=⟨rs.length-1,(succ_pred_eq_of_pos<|length_pos_iff.mpr b).symm⟩;have d:=h.len;refine f ?_;refine⟨by rw[length_set,Δ,Δ,d];rfl,?_,λj u c=>?_⟩
 ·rw[List.getElem?_set_self (by rw[Δ,d,b];exact succ_lt_succ<|succ_pos _),Δ,length_singleton,v8,d,b];rfl
 ·rw[List.getElem?_set_ne<|Ne.symm<|FX j];by_cases q:j<rs.length
  ·rw[List.getElem?_append_left q]at c;rw[List.getElem?_append_left (by rw[d];exact FW q)];exact h.row j u c
  ·have e:=(b8 c).1;rw[Δ,length_singleton]at e;have:j=rs.length:=Nat.le_antisymm (le_of_lt_succ e)<|Nat.le_of_not_lt q;clear h e;subst this;rw[List.getElem?_append_right<|Nat.le_refl _,Nat.sub_self]at c;cases c;rw[b,show rt (n+1)=σ.length by rw[d,b];rfl,List.getElem?_append_right<|Nat.le_refl _,Nat.sub_self];rfl
theorem xw.code{rs:List<|List Int}{u:List Int}(h:xw σ<|rs++[u])(c:Int):xw (σ.set (rt rs.length)<|Ξ.lst<|zs u++[ζ.int c])<|rs++[u++[c]]:=by
 refine Θ λk=>?_;have d:=h.len;have i:=h.vr;rw[Δ,length_singleton]at d i;refine k ?_;refine⟨by rw[length_set,Δ,length_singleton,d],by rw[List.getElem?_set_ne<|FX _,Δ,length_singleton];exact i,λj v b=>?_⟩;by_cases q:j=rs.length
 ·subst q;rw[List.getElem?_append_right<|Nat.le_refl _,Nat.sub_self]at b;cases b;rw[List.getElem?_set_self (by rw[d];exact FW<|lt_succ_self _),eM];rfl
 ·rw[List.getElem?_set_ne λe=>q (Nf e).symm];have g:=(b8 b).1;rw[Δ,length_singleton]at g;have f:=Nat.lt_of_le_of_ne (le_of_lt_succ g) q;rw[List.getElem?_append_left f]at b;exact h.row j v (by rw[List.getElem?_append_left f];exact b)
inductive VM(x:ζ)(C:List Int)(σ:List Ξ)(rs:List<|List Int)(u:List Int):Prop
 |mk (σ' hs:_):xw σ' hs->er hs=er (rs++[u])+C.length->hs.length=rs.length+1+C.count 10->(∀o,∃bu,ae5 (cE (bh 2) oG.d) (zs C) ⟨[some x,some (.ref 1),o],σ⟩=.ok .next ⟨[some x,some (.ref 1),bu],σ'⟩)->VM x C σ rs u
theorem Gz(x:ζ):∀(C:List Int) (σ:List Ξ) (rs:List<|List Int) (u:List Int),xw σ (rs++[u])->rs.length+C.length<=4000000->u.length+C.length<=4000000->VM x C σ rs u:=by
 intro w
 induction w with
 |nil=>exactλσ rs u h z z=>⟨σ,rs++[u],h,rfl,Δ,λo=>⟨o,rfl⟩⟩
 |cons c C s=>
  intro σ rs u h d p;have f:(rs++[u]).length=rs.length+1:=Δ;rw[length_cons]at d p;have j:σ[1]?=some (.lst<|refs<|rs.length+1):=by rw[←f];exact h.vr
  by_cases i:c=10
  ·obtain⟨σ',n,g,l,m,H⟩:=s _ (rs++[u]) [] (h.nl<|append_ne_nil_of_right_ne_nil _<|cons_ne_nil _ _) (by rw[f];exact(aV 0x100e3d090068919118000e3d0900689911810 [_,_] ι d)) (by rw[length_nil];exact(aV 0x100e3d090068910800e3d0900689911810 [_,_] ι d));refine⟨σ',n,g,by rw[l,k0<|rs++[u]];show er (rs++[u])+1+C.length=_;rw[length_cons];exact(eB 0x102e99118109191180 [_,_] ι),by rw[m,f,i,count_cons_self];exact(eB 0x102e9911819118091911891180 [_,_] ι),λo=>?_⟩;obtain⟨bu,e⟩:=H<|some<|.int c;refine⟨bu,cD (GD (T:=ao<|ag oEq aC<|χ<|.int 10) (A:=ep ae (mj<|cj ε) eN) (a:=⟨[some x,some<|.ref 1,some<|.int c],σ⟩) (b:=true) (by rw[i];rfl)<|xT (a:=⟨[some x,some<|.ref 1,some<|.int c],σ⟩) (a1:=⟨[some x,some<|.ref 1,some<|.int c],σ++[.lst []]⟩) (v:=.ref σ.length) rfl j rfl (ys:=refs<|rs.length+1) ?_<|if_pos (by rw[ju];exact bb<|aV 0x100e800010689118000e3d0900689911810 [_,_] ι d)) (by rw[←f];exact e)⟩;rw[List.getElem?_append_left (by rw[h.len,f];exact succ_lt_succ<|succ_pos _)];exact j
  ·obtain⟨σ',n,g,l,m,H⟩:=s _ rs (u++[c]) (h.code c) (aV 0x100e3d09006891000e3d0900689911810 [_,_] ι d) (by rw[Δ,length_singleton];exact(aV 0x100e3d090068919118000e3d0900689911810 [_,_] ι p));refine⟨σ',n,g,by rw[l,k0,k0];show er rs+((u++[c]).length+1+0)+C.length=er rs+(u.length+1+0)+_;simp only[Δ,length_cons,length_nil];exact(eB 0x102e99118299089118109299089118991180810 [_,_,_] ι),by rw[m,count_cons_of_ne i],λo=>?_⟩;obtain⟨bu,e⟩:=H<|some<|.int c;have r:=h.row rs.length u (by rw[List.getElem?_append_right<|Nat.le_refl _,Nat.sub_self];rfl);have a1:(bT ae<|af (aeX .Sub) (aH a9<|γ ae ε) bK).d ⟨[some x,some<|.ref 1,some<|.int c],σ⟩=.ok (.ref<|rt rs.length) ⟨[some x,some<|.ref 1,some<|.int c],σ⟩:=by have y:=jn (by rw[ju];exact bb<|aV 0x100e800010689118000e3d0900689911810 [_,_] ι d) (congrArg Int.ofNat<|ju<|rs.length+1) ⟨[some x,some<|.ref 1,some<|.int c],σ⟩ j;have t:=LI (k:=Int.ofNat (rs.length+1)-1) (v8 _) (by rw[ju];exact bb<|aV 0x100e800010689118000e3d0900689911810 [_,_] ι d) (by rw[ju];exact Int.add_sub_cancel (rs.length:Int) 1) ⟨[some x,some<|.ref 1,some<|.int c],σ⟩ j;show((a9 [.ref 1] ⟨[some x,some<|.ref 1,some<|.int c],σ⟩).bind λq a=>aeX .Sub q (.int 1) a).bind (λq a=>yP (.ref 1) q a)=_;rw[y];exact t
   exact⟨bu,cD (GD (T:=ao<|ag oEq aC<|χ<|.int 10) (B:=ep (bT ae<|af (aeX .Sub) (aH a9<|γ ae ε) bK) aC eN) (a:=⟨[some x,some<|.ref 1,some<|.int c],σ⟩) (b:=false) (aa.run [] (by rw[←hN i];kernel_rfl))<|xT (v:=.int c) a1 r rfl r<|if_pos (by rw[aZ];exact bb<|aV 0x100e80001068000e3d0900689911810 [_,_] ι p)) e⟩
theorem g0{m:bL}{it:aI}{r:Res aS}(b:it a=.ok xs a)(h:ae5 (cE f m) xs a=r):lh f m it a=r:=ip b h
theorem xw.IL{rs:List<|List Int}(h:xw σ rs):jJ [] σ (.ref 1)<|.list<|aJ rs:=.lst rfl h.vr (by rw[ju,a0]) λi x y b c=>by
 refine Θ λg=>?_;unfold refs at b;unfold aJ at c;rw[List.getElem?_map]at b c;obtain⟨j,e,rfl⟩:=Option.map_eq_some_iff.mp b;obtain⟨u,f,rfl⟩:=Option.map_eq_some_iff.mp c;have:j=i:=by have d:=(b8 e);obtain⟨d,q⟩:=d;rw[List.getElem_range]at q;exact q.symm
 subst this;refine g ?_;exact .lst rfl (h.row j u f) rfl λi x y b c=>by cases b.symm.trans c;exact .old<|.data<|fp u x<|List.mem_of_getElem? b
theorem v5(b:C.length<=4000000):oX (λ(rs:List<|List Int)=>er rs=C.length+1) (λ(rs:List<|List Int)=>rs.length=1+C.count 10) (λ(rs:List<|List Int)=>∀σ,cN σ->Λ "rows_in" [.list<|zs C] σ=.ok (.list<|aJ rs) ⟨[],σ⟩):=by
 refine Θ λg=>?_
 have f:xw [.lst [],.lst [.ref 0]]<|[]++[[]]:=⟨rfl,rfl,λj u e=>by
  cases j with
  |zero=>cases e;rfl
  |succ j=>exact qs (j:=j) e⟩
 obtain⟨σ',rs,h,c,d,H⟩:=Gz (.list<|zs C) C _ [] [] f (by rw[length_nil];exact(aV 0x100e3d090068900800e3d0900680 [_] ι b)) (by rw[length_nil];exact(aV 0x100e3d090068900800e3d0900680 [_] ι b));refine g ?_;refine⟨rs,by rw[c,Nat.add_comm];rfl,d.trans (by rw[length_nil]),λσ h0=>?_⟩;obtain⟨bu,e⟩:=H none;rw[EL];exact ae3 h0 (b1 (h:=[.s<|g0 (it:=oF) (by kernel_rfl) e]) (by kernel_rfl) nofun) (ba (.zs C) cX) h.IL
section
variable {A:List Int}{l:Nat}{p:Int}{t:List Ξ}
theorem mC(m:T.length<=4194304){i:Int}(h:1<=i)(j:i<=T.length+1):∃c,0<=c/\c<=4*(i-1)/\∀u t b p,gN b T p->Λ "column_of" [.ref 0,.int i,.int 4] (aQ u b t)=.ok (.int c) ⟨[],aQ u b t⟩:=by refine Θ λy=>?_;obtain⟨P,B,C,rfl,d,f⟩:=lM h (Int.le_refl i) j;have:B=[]:=eq_nil_of_length_eq_zero<|cP 0x102e08118e91189b1b0008e9118b00 [_,_] [_] ι d f;clear h j f;subst this;obtain⟨A1,A,rfl,q,k⟩:=rM P;have x:A.length<=sizeLine:=bb (Nat.le_trans (by simp only[Δ];exact(eB 0x100e99329010 [_,_,_,_] ι))<|Nat.le_trans m<|by simp);replace d:=Δ▸d;obtain⟨v,g,n⟩:=lj k q (bp ..) (i:=i)<|bP 0x108e91189b1b0008e9118b9100 [_,_] [_] ι d;obtain⟨c,l,o,r⟩:=Pk (append_nil A).symm x (i:=i-v)<|cP 0x108eb1a1018e9118b0108e9118b9100 [_,_] [_,_] ι d g;exact y ⟨c,(bP 0x106e00806e0b0 [_] [_] ι l),(cP 0x106eca1180418106ecb1418138e4189118b9100 [_,_] [_,_] ι d o),λu t b p w=>π z8 [.c<|n u t b p w,.c<|gE u t w (A:=A1) (B:=A) (C:=C) (s:=v) (e:=i) (bp ..) g<|bP 0x108e91189b1b0008e9118b9100 [_,_] [_] ι d,.c<|r<|aQ u b t]⟩
theorem SX(a:aD):qt [.list [.int x,.int y]] a=.ok (.list [.int<|f3 x y,.int<|fm x y]) a:=by
 show Res.of (some (ζ.list<|two x y,a))=_;unfold two f3 fm;by_cases h:y<x
 ·rw[if_pos h,if_pos h,if_neg<|Int.not_lt.mpr<|Int.le_of_lt h];rfl
 ·rw[if_neg h,if_neg h];by_cases q:y>x
  ·rw[if_pos q];rfl
  ·rw[if_neg q,Int.le_antisymm (Int.not_lt.mp h)<|Int.not_lt.mp q];rfl
def eV(low high:Int)(b:List<|List Int)(x y:Int):ζ:=.inst 12 [.int low,.int high,.list<|aJ b,.int x,.int y]
theorem tm{σ:List Ξ}(h:cN σ)(low high:Int)(b:List<|List Int)(x y:Int):fW 12 [.int low,.int high,.list<|aJ b,.int x,.int y] σ=.ok (eV low high b x y) ⟨[],σ⟩:=by exact YC▸(ae3 h (kZ<|b1 (h:=[]) (by kernel_rfl) nofun) (ba (.int low)<|ba (.int high)<|ba (.list<|jA b)<|fp [x,y])<|mY<|ba (.int low)<|ba (.int high)<|ba (.list<|jA b)<|fp [x,y])
structure xA(T:List Int)(low high:Int)(rows:List<|List Int)(x y:Int):Prop where
 lo:1<=low
 ah:high<=T.length+1
 all:(er rows:Int)=high-low+1
 x0:0<=x
 Kq:x<=y
inductive OU(T:List Int)(i j s e:Int):Prop
 |mk (low high rows x y:_):xA T low high rows x y->y<=4*(e-1)->(rows.length:Int)<=1+(e-s)->
  (∀aF T0 l n b R t p,cN t->W aF T0 l n b R T p->Λ "span_of" [.ref 0,.int i,.int j,.int 4] (aY b R t)=.ok (eV low high rows x y) ⟨[],aY b R t⟩)->OU T i j s e
theorem PS{i j:Int}(m:T.length<=4000000)(h:1<=f3 i j/\fm i j<=T.length+1):OU T i j (f3 i j)<|fm i j:=by
 refine Θ λZ=>?_;have q:=DA i j;have G:∀aF T0 l n b R t p,W aF T0 l n b R T p->Λ "reached" [.ref 0,.int i,.int j] (aY b R t)=.ok (.tup [.int<|f3 i j,.int<|fm i j]) ⟨[],aY b R t⟩:=λaF T0 l n b R t p w=>iA t w h;obtain⟨P,M,S,rfl,k,o⟩:=lM h.1 q h.2;obtain⟨C,hv,rfl,v,E⟩:=ph S;obtain⟨A1,A,rfl,B,H⟩:=rM P;generalize f3 i j=s at*;generalize fm i j=e at*;obtain⟨f,X,Y,V⟩:=mC (Nat.le_trans m<|by decide) h.1<|Int.le_trans q h.2;obtain⟨g,J,L,I⟩:=mC (Nat.le_trans m<|by decide) (Int.le_trans h.1 q) h.2;have t1:A1++A++(M++(C++hv))=A1++(A++(M++(C++hv))):=bp ..;have h2:A1++A++(M++(C++hv))=(A1++A++M)++(C++hv):=(bp ..).symm;have U:A1++A++(M++(C++hv))=A1++((A++M++C)++hv):=by simp only[bp]
 have d:(A1++A++(M++(C++hv))).length=A1.length+A.length+(M.length+(C.length+hv.length)):=by simp only[Δ]
 rw[d]at m;replace k:=Δ▸k;obtain⟨low,u,K⟩:=lj H B t1 (i:=s)<|bP 0x108e91189b1b0008e9118b9100 [_,_] [_] ι k;replace o:=Δ▸o;obtain⟨high,z,O⟩:=nO E v h2 (i:=e) (by simp only[Δ];exact(bP 0x108e9118b92910008e91189b2b9100 [_,_,_] [_] ι o));have D:(A++M++C).length=A.length+M.length+C.length:=by simp only[Δ]
 have r:high=(A1.length:Int)+(A++M++C).length+1:=by simp only[Δ]at z⊢;exact(bP 0x108e91189b93921b0008e91189b3b929100 [_,_,_,_] [_] ι z)
 obtain⟨c,aX,N,Q⟩:=v5<|ck 0x100e3d090068502e93921500e3d090068999432910 [_,_,_,_,_,_] ι m D;have F:(A++M++C).count 10<=M.length:=by rw[List.count_append,List.count_append,show A.count 10=0 from B,show C.count 10=0 from v,Nat.zero_add];exact count_le_length
 refine Z ⟨low,high,c,f3 f g,fm f g,⟨(bP 0x106e011818e9118b00 [_] [_] ι u),(fB 0x106e9118b0008e91189b6b1002e94932612e9995439210 [_,_,_,_,_,_,_] [_] ι d D r),(fB 0x108e9118a01b202e91181218e91189b1b0108e9118b00 [_,_,_] [_,_] ι u r aX),LP (0<=·) X J,DA _ _⟩,DB (·<=4*(e-1)) (cP 0x106eca1181418206eca1180418226e41810 [] [_,_,_] ι q Y) L,(oJ 0x106e9a01118b300e2402e94118318e91189b2b910108e9118b9100 [_,_,_,_,_] [_,_] ι k o N F),λaF T0 l n b R t p h0 w=>?_⟩;exact π vu [.c<|G aF T0 l n b R t p w,.c<|K (.ref 4) (cb R t) b p w.cr,.c<|O (.ref 4) (cb R t) b p w.cr,.c<|V (.ref 4) (cb R t) b p w.cr,.c<|I (.ref 4) (cb R t) b p w.cr,.v<|SX (x:=f) (y:=g),.c<|gE (.ref 4) (cb R t) w.cr U u r,.c<|Q (aY b R t) h0.dE,.k,.k,.c<|tm (h0.dE (b:=b) (R:=R)) low high c (f3 f g)<|fm f g]
end
noncomputable def LO(a b c:Int):Int:=if b<a then(if c<b then c else b)else(if c<a then c else a)
theorem RS(a b c:Int):LO a b c<=b/\LO a b c<=c:=rp (λz=>z<=b/\z<=c) (λx=>rp (λz=>z<=b/\z<=c) (λh=>⟨Int.le_of_lt h,Int.le_refl c⟩) λh=>⟨Int.le_refl b,Int.not_lt.mp h⟩) λq=>rp (λz=>z<=b/\z<=c) (λh=>⟨Int.le_trans (Int.le_of_lt h)<|Int.not_lt.mp q,Int.le_refl c⟩) λh=>⟨Int.not_lt.mp q,Int.not_lt.mp h⟩
theorem MJ(L M:List Int)(t:L.length<=4000000)(r:M.length<=8000000)(k:Int):∀(j i:Nat),i+j=L.length->i<=M.length->Ov (λ(q:Nat)=>i<=q) (λ(q:Nat)=>q<=L.length) (λ(q:Nat)=>q<=M.length) (λ(q:Nat)=>∀σ,c4 kz.d ky.d ⟨[some<|.list<|zs L,some<|.list<|zs M,some<|.int k,some<|.int i],σ⟩=.ok .next ⟨[some<|.list<|zs L,some<|.list<|zs M,some<|.int k,some<|.int q],σ⟩):=by
 refine Θ λF=>?_
 have f:=lenZ (bb<|Nat.le_trans t<|by decide)
 have g:=lenZ (bb<|Nat.le_trans r<|by decide)
 have c:=RS k L.length M.length
 refine F ?_
 intro j
 induction j with
 |zero=>exactλi b d=>⟨i,Nat.le_refl _,Nat.le_of_eq b,d,λσ=>dx<|aa.run [.v f,.v g,.F<|f5 (p:=(i:Int)<LO k L.length M.length)<|cP 0x10ae0b112e0908106eb00 [_,_] [_] ι c.1 b,.k]⟩
 |succ j u=>
  intro i b d;by_cases q:(i:Int)<LO k L.length M.length
  ·obtain⟨A,C,m,l⟩:=nJ (i:=i)<|aV 0x100e2002e29911810 [_,_,_] ι b;obtain⟨B,D,n,h⟩:=nJ d;cases C with
   |nil=>have:=congrArg length m;rw[Δ,length_nil]at this;exact absurd b<|hB 0x125e3e8382991181002e9083202e0322e3e93829911810 [_,_,_,_] ι b l this
   |cons x C=>
    cases D with
    |nil=>have:=congrArg length n;rw[Δ,length_nil]at this;exact absurd q (by have:=c.2;exact(fB 0x10ae0b202e9081002e2106eb00 [_,_,_] [_] ι c.2 h ‹_›))
    |cons y D=>
     have s:=gJ (mq m) (by rw[aZ];exact bb<|aV 0x100e80001068000e3d0900680 [_] ι t) (by rw[aZ,l]);have o:=gJ (mq n) (by rw[aZ];exact bb<|aV 0x100e80001068000e7a1200680 [_] ι r) (by rw[aZ,h]);by_cases e:x=y
     ·obtain⟨v,w,z,E,H⟩:=u (i+1) (aV 0x102e2919118002e29911810 [_,_,_] ι b)<|cP 0x100e09118107e0b106eb00 [_,_] [_] ι c.2 q;exact⟨v,(aV 0x100e1000e191180 [_,_] ι w),z,E,λσ=>jz (aa.run [.v f,.v g,.T<|e2 q,.v s,.v o,.T<|I5 e,.k]) (aa.run (a':=⟨[some<|.list<|zs L,some<|.list<|zs M,some<|.int k,some<|.int (i+1:Nat)],σ⟩) [])<|H σ⟩
     ·exact⟨i,Nat.le_refl _,(aV 0x100e2002e29911810 [_,_,_] ι b),d,λσ=>dx<|aa.run [.v f,.v g,.T<|e2 q,.v s,.v o,.F<|hN e,.k]⟩
  ·exact⟨i,Nat.le_refl _,(aV 0x100e2002e29911810 [_,_,_] ι b),d,λσ=>dx<|aa.run [.v f,.v g,.F<|f5 q,.k]⟩
theorem x5{L M:List Int}(e:L.length<=4000000)(b:M.length<=8000000)(k:Int):oX (λ(q:Nat)=>q<=L.length) (λ(q:Nat)=>q<=M.length) (λ(q:Nat)=>∀σ,Λ "common_many" [.list<|zs L,.list<|zs M,.int k] σ=.ok (.int q) ⟨[],σ⟩):=by obtain⟨q,_,c,d,H⟩:=MJ L M e b k L.length 0 (Nat.zero_add _)<|zero_le _;exact⟨q,c,d,λσ=>π wC [.s<|H σ]⟩
theorem SE(b:L.length<=sizeLine)(a:aD):DQ (.list<|zs L) a=.ok (.list<|zs L.reverse) a:=by rw[show zs L.reverse=(zs L).reverse from List.map_reverse ..];exact Res.d4 (by rw[aZ];exact b)
section
variable {p:Int}
theorem E7{M:List Int}{i a c:Int}(X:1<=i)(Y:i+L.length<=T.length+1)(k:L.length<=2000000)(f:T.length+M.length<=4194304):ka (λbN h=>ef (Λ "put_row") [.ref 0,.int i,.list<|zs L,.list<|zs M,.int a,.int c] 2 T p (.ok .none) bN h) λbN h=>bN.length+L.length=T.length+M.length:=by
 refine Θ λZ=>?_;have hz:=bb<|Nat.le_trans k (by decide:2000000<=8388624);have m:M.length<=sizeLine:=bb<|aV 0x100e80001068100e40000068910 [_,_] ι f;obtain⟨q,S,U,V⟩:=x5 (aV 0x100e3d090068000e1e8480680 [_] ι k) (aV 0x100e7a120068100e40000068910 [_,_] ι f) a;obtain⟨mv,K,C,B⟩:=nJ S;obtain⟨G,F,z,o⟩:=nJ U;have g:=congrArg length C;have d:=congrArg length z;rw[Δ]at g d;obtain⟨r,E,j,J⟩:=x5 (by rw[length_reverse];exact(ck 0x100e3d090068212e921000e1e8480680 [_,_,_] ι k g)) (by rw[length_reverse];exact(ck 0x100e7a120068312e932100e40000068910 [_,_,_,_] ι f d)) c;rw[length_reverse]at E j;obtain⟨D,s,P,A⟩:=nJ (i:=F.length-r)<|sub_le _ _;obtain⟨v,bN,h,H,u⟩:=pn (x:=i+q) (y:=i+L.length-r) (bP 0x106e9b0011806e0118 [_] [_] ι X) (fB 0x106eab49b209b1000e3412e930212e10 [_,_,_,_,_] [_] ι B g E) (bP 0x106e9118b1ab29b0006e9118b19b00 [_,_,_] [_] ι Y) (nB 0x100e4000006894002e396502e5412e932100e40000068910 [_,_,_,_,_,_,_] ι f d A<|Nat.sub_add_cancel<|aV 0x100e1000e10 [_,_] ι j) p;refine Z ⟨bN,h,λaF T0 l n b R t N h0 w=>?_,(OF 0x102e921f97602e390f508e9b4b1f9a9b10ab0f9b70b602e5412e930212e10 [_,_,_,_,_,_,_,_,_,_] [_] ι o d A u<|Nat.sub_add_cancel<|aV 0x100e1000e10 [_,_] ι j)⟩;obtain⟨b',R',O,Q⟩:=H aF T0 l n b R t N h0 w;have I:M=G++(D++s):=by rw[z,P]
 exact⟨b',R',π EK [.c<|V<|aY b R t,.v (qg C hz<|by rw[B]),.v<|SE<|bb<|ck 0x100e80001068212e921000e1e8480680 [_,_,_] ι k g,.v (qg z m<|by rw[o]),.v<|SE<|bb<|ck 0x100e80001068312e932100e40000068910 [_,_,_,_] ι f d,.c<|J<|aY b R t,.v<|lenZ hz,.v<|lenZ m,.v<|XO I m (e:=M.length-r) (by rw[o])<|hB 0x108e9b3b1ab5b012e295412e4302e9210 [_,_,_,_,_,_] ι d A<|Nat.sub_add_cancel<|aV 0x100e1000e10 [_,_] ι j,.c O],Q⟩
end
section
variable {p:Int}
def Sz(low high:Int)(os:List<|List Int)(x y:Int)(ns:List<|List Int)(c i:Int)(f e d b:Option ζ):List<|Option ζ:=[some<|.ref 0,some<|eV low high os x y,some<|.list<|aJ ns,some<|.int c,some<|.int 4,some<|.int i,f,e,d,b]
inductive VL(F:Option ζ->Option ζ->Option ζ->Option ζ->List (Option ζ))(x:Res aS)(t:List Ξ)(aF:List ζ)(T0:List Int)(l n:Nat)(T:List Int)(p:Int):Prop
 |mk (b R kR hF gI eo:_):x=.ok .next ⟨F kR hF gI eo,aY b R t⟩->W aF T0 l n b R T p->VL F x t aF T0 l n T p
def ZP(F:Int->Option ζ->Option ζ->Option ζ->Option ζ->List (Option ζ))(k:Nat)(T:List Int)(p i:Int)(bN:List Int)(c e:Int):Prop:=∀aF T0 l n b R t h g f d,n+2*k<=4000000->cN t->W aF T0 l n b R T p->VL (F e) (ae5 (cE (bh 6) nq.d) (bI (k-1) (-1) k) ⟨F i h g f d,aY b R t⟩) t aF T0 l (n+2*k) bN c
theorem NL{low high c:Int}{os ns:List<|List Int}(Ψ:x<=160)(a3:c<=160)(a5:os.length<=4000000)(QW:ns.length<=4000000):∀(k:Nat) (O N u s:List<|List Int),O.length=k->N.length=k->os=O++u->ns=N++s->(∀(i:Nat) o w,O[i]?=some o->N[i]?=some w->w.length<=o.length+980)->
 ∀(T:List Int) (p i:Int),(er O:Int)<=i->i<=T.length+1->T.length+k*980<=2000000->∃bN A B,bN.length<=T.length+k*980/\ZP (Sz low high os x y ns c) k T p i bN A B:=by
 intro k
 induction k with
 |zero=>exactλO N u s W W W W W T p i W W W=>⟨T,p,i,le_add_right _ _,λaF T0 l n b R t U D C v W W w=>⟨b,R,U,D,C,v,rfl,w⟩⟩
 |succ k aG=>
  intro O N u s f h rn gA z T p i d j m;refine Θ λG=>?_;rcases eq_nil_or_concat O with rfl|⟨O,o,rfl⟩
  ·exact G<|AP f
  rcases eq_nil_or_concat N with rfl|⟨N,w,rfl⟩
  ·exact G<|AP h
  rw[concat_eq_append]at f h rn gA z d;replace z:=concat_eq_append▸z;rw[Δ]at f h;rw[length_singleton]at f h;have f:=Nat.succ.inj f;have h:=Nat.succ.inj h;have L:os=O++o::u:=by rw[rn,bp];rfl
  have Y:ns=N++w::s:=by rw[gA,bp];rfl
  have S:=z k o w (by rw[←f,List.getElem?_append_right<|Nat.le_refl _,Nat.sub_self];rfl) (by rw[←h,List.getElem?_append_right<|Nat.le_refl _,Nat.sub_self];rfl);have ma:∀(i:Nat) o w,O[i]?=some o->N[i]?=some w->w.length<=o.length+980:=λi o w I E=>z i o w (by rw[List.getElem?_append_left (b8 I).1];exact I) (by rw[List.getElem?_append_left (b8 E).1];exact E);rw[k0]at d;have d:=d;have Z:o.length<=sizeLine:=bb<|fB 0x100e80001068306e0b990891183200e1e8480689d3d43891181006e9118b00 [_,_,_,_] [_] ι j m d;have Yi:(aJ os).length<=sizeLine:=by rw[a0];exact bb<|aV 0x100e80001068000e3d0900680 [_] ι a5
  have I0:(aJ ns).length<=sizeLine:=by rw[a0];exact bb<|aV 0x100e80001068000e3d0900680 [_] ι QW
  have lZ:=gJ (lU L) Yi (by rw[a0,f]);have Q:=gJ (lU Y) I0 (by rw[a0,h]);obtain⟨ez,TM,f1,_,I⟩:=qx (fB 0x100e3d090068306e0b990891183200e1e8480689d3d43891181006e9118b00 [_,_,_,_] [_] ι j m d) Ψ;obtain⟨eZ,mN,_,f2,E⟩:=qx (fB 0x100e3d090068306e0b990891183200e1e8480689d3d43891181006e9118b00 [_,_,_,_] [_] ι j m d) a3;have ak:((k+1:Nat):Int)-1=k:=Int.add_sub_cancel (k:Int) 1;have Wk:(k:Int)+-1=k-1:=rfl;by_cases q:w=o
  ·obtain⟨bN,A,B,g,H⟩:=aG O N (o::u) (w::s) f h L Y ma T p (i-o.length-1) (bP 0x106ea118ab10b006e0b9908911810 [_,_] [_] ι d) (bP 0x106e9118b0a118ab1006e9118b00 [_,_] [_] ι j)<|aV 0x100e1e8480689d3d4381000e1e8480689d3d438911810 [_,_] ι m;refine G ⟨bN,A,B,(aV 0x100e9d3d438911821000e9d3d438210 [_,_,_] ι g),λaF T0 l n b R t U D C v F h0 M=>?_⟩;obtain⟨b',R',J,P,K,X,e,V⟩:=H aF T0 l n b R t (some<|.int k) (some<|.list<|zs o) (some<|.int<|i-o.length) v (aV 0x100e3d0900689c1218000e3d0900689c911812180 [_,_] ι F) h0 M;refine⟨b',R',J,P,K,X,?_,V.more<|eB 0x100e9c9118121809c12180 [_,_] ι⟩;rw[ak,b0];exact cD (aa.run (a:=⟨Sz low high os x y ns c i (some<|.int k) D C v,aY b R t⟩) [.v lZ,.v<|lenZ Z,.v Q,.v<|pP w o,.F (b:=!(w==o)) (by rw[q,beq_self_eq_true];rfl)]) e
  ·obtain⟨gL,d1,H1,r⟩:=E7 (i:=i-o.length) (a:=ez.length) (c:=mN.length) (bP 0x106eab1011806e0b9908911810 [_,_] [_] ι d) (bP 0x106e9118b09b1ab1006e9118b00 [_,_] [_] ι j) (fB 0x100e1e848068306e0b990891183200e1e8480689d3d43891181006e9118b00 [_,_,_,_] [_] ι j m d)<|oJ 0x100e4000006892006e0b990891183400e93d4383220e2181e8480689d3d43891181006e9118b00 [_,_,_,_,_] [_] ι j m S d;obtain⟨bN,A,B,g,H⟩:=aG O N (o::u) (w::s) f h L Y ma gL d1 (i-o.length-1) (bP 0x106ea118ab10b006e0b9908911810 [_,_] [_] ι d) (cP 0x106e9118b1a118ab2012e93092106e9118b00 [_,_,_,_] [_] ι j r)<|hB 0x100e1e8480689d3d4381402e92093400e93d4383200e1e8480689d3d438911810 [_,_,_,_,_] ι m S r;refine G ⟨bN,A,B,(hB 0x100e9d3d438911853400e9d3d43852402e90391200e93d43810 [_,_,_,_,_,_] ι S r g),λaF T0 l n b R t U D C v F h0 M=>?_⟩;refine Θ λgB=>?_;obtain⟨bj,hJ,bQ,nu⟩:=H1 aF T0 l n b R t (aV 0x100e3d0900689218000e3d0900689c911812180 [_,_] ι F) h0 M;obtain⟨b',R',J,P,K,X,e,V⟩:=H aF T0 l (n+2) bj hJ t (some<|.int k) (some<|.list<|zs o) (some<|.int<|i-o.length) (some<|.int ez.length) (aV 0x100e3d0900689c12189218000e3d0900689c911812180 [_,_] ι F) h0 nu;refine gB ⟨b',R',J,P,K,X,?_,V.more<|eB 0x100e9c9118121809c121892180 [_,_] ι⟩;rw[ak,b0];exact cD (aa.run (a:=⟨Sz low high os x y ns c i (some<|.int k) D C v,aY b R t⟩) [.v lZ,.v<|lenZ Z,.v Q,.v<|pP w o,.T (b:=!(w==o)) (by rw[beq_false_of_ne q];rfl),.c<|I<|aY b R t,.k,.v (lenZ<|bb<|Nat.le_trans f1<|by simp),.v Q,.c<|E<|aY b R t,.k,.v<|lenZ<|bb<|oJ 0x100e80001068500e9318395406e0b990891183200e1e8480689d3d43891181006e9118b00 [_,_,_,_,_,_] [_] ι j m d f2,.c bQ]) e
theorem Nd(h:ds a=.ok [.int<|k-1,.int<|-1,.int<|-1] a1)(c:k<=4000000):gj ds a=.ok (bI (k-1) (-1) k) a1:=by
 refine Θ λd=>?_;have e:Builtin.divisionGoesByPylong (-1-((k:Int)-1)) (-1)=false:=by rfl
 have b:Builtin.Range.rangeSize ((k:Int)-1) (-1) (-1)=k:=by rw[rangeSize_downNat];exact(aV 0x108eb1b008eaa11808a118b1b0 [_,_] ι<|toNat_of_nonneg<|eB 0x106eaa11808a118b008 [_] ι)
 refine d ?_;delta gj;rw[h];refine(?_:Res.of ((fQ [.int<|(k:Int)-1,.int<|-1,.int<|-1]).bind _)=_);refine(?_:Res.of (if Builtin.Range.small ((k:Int)-1) (-1) (-1)=true then if 0<=Builtin.Range.rangeSize ((k:Int)-1) (-1) (-1)then some (bI ((k:Int)-1) (-1) (Builtin.Range.rangeSize ((k:Int)-1) (-1)<|-1).toNat,a1)else none else none)=_);rw[if_pos (zG (Int.le_trans (by decide:(-1000000000:Int)<=0-1)<|Int.sub_le_sub_right (natCast_nonneg k) 1) (Int.le_trans (Int.sub_le_self _<|by decide)<|ofNat_le.mpr<|Nat.le_trans c (by decide:4000000<=1000000000)) (by decide)<|by decide).2,b];rfl
theorem iO{low high x y c:Int}{os ns:List<|List Int}(S:xA T low high os x y)(A:x<=160)(k:c<=160)(d:ns.length=os.length)(q:∀(i:Nat) o w,os[i]?=some o->ns[i]?=some w->w.length<=o.length+980)(j:T.length+os.length*980<=2000000)(p:Int):
 ∃bN h,ef (Λ "put_rows") [.ref 0,eV low high os x y,.list<|aJ ns,.int c,.int 4] (2*os.length) T p (.ok .none) bN h/\bN.length<=T.length+os.length*980:=by
 refine Θ λD=>?_
 have f:os.length<=4000000:=(aV 0x120e3d4383d090068100e1e8480689d3d43810 [_,_] ι j)
 have B:=S.all
 have C:=S.lo
 have u:=S.ah
 obtain⟨bN,h,F,g,H⟩:=NL A k f (d▸f) os.length os ns [] [] rfl d (append_nil _).symm (append_nil _).symm q T p high (cP 0x106e0b006e111808e9118a10b0 [_] [_,_] ι B C) u j
 refine D ⟨bN,h,λaF T0 l n b R t s h0 w=>?_,g⟩
 refine Θ λz=>?_
 obtain⟨b',R',J,I,G,E,e,v⟩:=H aF T0 l n b R t none none none none s h0 w
 have r:nk ⟨[some<|.ref 0,some<|eV low high os x y,some<|.list<|aJ ns,some<|.int c,some<|.int 4,some<|.int high,none,none,none,none],aY b R t⟩=.ok (bI (os.length-1) (-1) os.length) ⟨[some<|.ref 0,some<|eV low high os x y,some<|.list<|aJ ns,some<|.int c,some<|.int 4,some<|.int high,none,none,none,none],aY b R t⟩:=
  Nd (aa.run (m:=γ (af (aeX .Sub) (aH a9<|γ aC ε) bK)<|γ (χ<|.int<|-1)<|γ (χ<|.int<|-1) ε) [.v<|eT (by rw[a0,d];exact bb<|aV 0x120e3d43880001068100e1e8480689d3d43810 [_,_] ι j)<|by rw[a0,d]]) f
 exact z ⟨b',R',π Cv [.s<|g0 r e],v⟩
end
theorem l7{caps:List<|Option ζ}(P:List Int->List Int->Prop):∀os:List<|List Int,(∀o∈os,∃w,P o w/\∀σ,cN σ->d ⟨some (.list<|zs o)::caps,σ⟩=.ok (.list<|zs w) ⟨some (.list<|zs o)::caps,σ⟩)->
 oX (λ(ns:List<|List Int)=>ns.length=os.length) (λ(ns:List<|List Int)=>(∀(i:Nat) o w,os[i]?=some o->ns[i]?=some w->P o w)) (λ(ns:List<|List Int)=>∀σ q,cN σ->∃b,ec (bh 0) d (aJ os) ⟨q::caps,σ⟩=.ok (aJ ns) ⟨b::caps,σ⟩):=by
 intro g
 induction g with
 |nil=>exactλx=>⟨[],rfl,λi o w e=>qs e,λσ q x=>⟨q,rfl⟩⟩
 |cons o os c=>
  intro h;obtain⟨w,j,k⟩:=h o<|.head _;obtain⟨ns,l,m,H⟩:=c λo q=>h o<|.tail _ q;refine⟨w::ns,congrArg (·+1) l,λi bu f a1 a2=>?_,λσ q h0=>?_⟩
  ·cases i with
   |zero=>cases a1;cases a2;exact j
   |succ i=>exact m i bu f a1 a2
  ·obtain⟨b,e⟩:=H σ (some<|.list<|zs o) h0;refine⟨b,?_⟩;show(ee<|d ⟨some (.list<|zs o)::caps,σ⟩).bind _=_;rw[k σ h0];show(ec (bh 0) d (aJ os) ⟨some (.list<|zs o)::caps,σ⟩).bind _=_;rw[e];rfl
theorem pg{cs:List<|Option Nat}(h:iC a=.ok xs a)(c:xs.length<=sizeLine)(b:ec f d xs ⟨cs.map<|H6 a.ρ,a.σ⟩=.ok ps ⟨ρ,a.σ⟩):ou cs f d iC a=.ok ps a:=by unfold ou;rw[h];show(if xs.length<=sizeLine then _ else _)=_;rw[if_pos c,b];rfl
def Kept(aA:List<|List Int):Prop:=aA.length<=41/\∀u∈aA,u.length<=812
theorem qD:∀{us:List<|List Int} {u:List Int},u∈us->u.length<=er us
 |u::us,_,.head _=>by show u.length<=u.length+1+er us;exact(eB 0x100e91911800 [_,_] ι)
 |v::us,u,.tail _ h=>by have:=qD h;show u.length<=v.length+1+er us;exact(aV 0x100e9191182000e10 [_,_,_] ι this)
section
variable {p i j:Int}
structure vl(T:List Int)(i j:Int):Prop where
 len:T.length<=1500000
 lo:1<=f3 i j
 ah:fm i j<=T.length+1
 c5:fm i j<=41
inductive Ou(T:List Int)(i j:Int):Prop
 |mk (low high rows x y:_):xA T low high rows x y->y<=160->rows.length<=41->(∀o∈rows,o.length<=1500001)->
  (∀aF T0 l n b R t p,cN t->W aF T0 l n b R T p->Λ "span_of" [.ref 0,.int i,.int j,.int 4] (aY b R t)=.ok (eV low high rows x y) ⟨[],aY b R t⟩)->Ou T i j
theorem nI(c:vl T i j):Ou T i j:=by refine Θ λp=>?_;have m:=c.len;have n:=c.lo;have d:=c.c5;obtain⟨low,high,b,x,y,S,g,f,e⟩:=PS (Nat.le_trans c.len<|by decide) ⟨c.lo,c.ah⟩;have h:=S.lo;have k:=S.ah;have l:=S.all;refine p ?_;exact⟨low,high,b,x,y,S,(cP 0x106ea028106eca1180418126e41829280 [] [_,_] ι d g),(fB 0x100e2928006e9a01118b006e2928106e0118 [_] [_,_] ι n d f),λo q=>by have:=qD q;exact(OF 0x100e16e36168200e1208e9118a01b106e9118b0106e011800e16e360680 [_,_,_] [_,_] ι m h k l this),e⟩
theorem vc{aF R:List ζ}{T0:List Int}{l:Nat}(t:List Ξ)(w:W aF T0 l n b R T p)(h:¬(1<=f3 i j/\fm i j<=T.length+1)):Λ "span_of" [.ref 0,.int i,.int j,.int 4] (aY b R t)=.err 3 ⟨[],aY b R t⟩:=il vu [.e<|rB t w h]
theorem E6(c:vl T i j):∃aA,Kept aA/\∀aF T0 l n b R t p,cN t->W aF T0 l n b R T p->Λ "extract_rectangle" [.ref 0,.int i,.int j,.int 4] (aY b R t)=.ok (.list<|aJ aA) ⟨[],aY b R t⟩:=by
 refine Θ λG=>?_;obtain⟨low,high,d,x,y,S,h,f,z,e⟩:=nI c;have s:=S.x0;have r:=S.Kq;obtain⟨aA,v,F,H⟩:=l7 (caps:=[some<|eV low high d x y,some<|.int 4]) (λX w=>w.length<=812) d λo q=>by obtain⟨w,C,E⟩:=Av (Nat.le_trans (z o q)<|by decide) s (Int.le_trans r h) h<|Int.le_trans s r;exact⟨w,C,λσ h0=>aa.run (m:=ht) [.c<|E σ h0]⟩
 refine G ⟨aA,⟨v▸f,λu q=>?_⟩,λaF T0 l n b R t p h0 w=>?_⟩
 ·obtain⟨k,g⟩:=List.getElem?_of_mem q;have D:=(b8 g).1;exact F k _ u (b3<|v▸D) g
 ·obtain⟨I,A⟩:=H (aY b R t) none h0.dE;have B:hu ⟨[some<|.ref 0,some<|.int i,some<|.int j,some<|.int 4,some<|eV low high d x y],aY b R t⟩=.ok (aJ aA) ⟨[some<|.ref 0,some<|.int i,some<|.int j,some<|.int 4,some<|eV low high d x y],aY b R t⟩:=pg (by kernel_rfl) (by rw[a0];exact bb<|Nat.le_trans f<|by decide) A;exact π i6 [.c<|e aF T0 l n b R t p h0 w,.l B]
inductive acY(con:List ζ->List Ξ->Res ζ)(ps:List ζ)(T:List Int)(p:Int):Prop
 |mk (o bN bB:_):ef con ps 82 T p o bN bB->bN.length<=T.length+40500->acY con ps T p
theorem wJ(c:vl T i j)(p:Int):ka (λbN h=>ef (Λ "delete_rectangle") [.ref 0,.int i,.int j,.int 4] 82 T p (.ok .none) bN h) λbN h=>bN.length<=T.length+40500:=by
 refine Θ λJ=>?_;obtain⟨low,high,d,x,y,S,g,f,s,e⟩:=nI c;have L:=S.x0;have k:=S.Kq;obtain⟨aA,F,G,H⟩:=l7 (caps:=[some<|eV low high d x y,some<|.int 4]) (λo w=>w.length<=o.length+980) d λo q=>by obtain⟨w,D,E⟩:=JK (Nat.le_trans (s o q)<|by decide) (Int.le_trans k g) g;exact⟨w,Nat.le_trans D<|Nat.add_le_add_left (by decide) _,λσ h0=>aa.run (m:=hW) [.c<|E σ]⟩
 have I:=c.len;obtain⟨bN,h,r,z⟩:=iO S (Int.le_trans k g) g F G (ck 0x100e1e8480689d3d4380100e16e36068120e3d43829280 [_,_] ι f I) p;refine J ⟨bN,h,λaF T0 l n b R t v h0 w=>?_,(ck 0x100e99e34482100e9d3d43802120e3d43829280 [_,_,_] ι f z)⟩;obtain⟨K,u⟩:=H (aY b R t) none h0.dE;have A:hX ⟨[some<|.ref 0,some<|.int i,some<|.int j,some<|.int 4,some<|eV low high d x y],aY b R t⟩=.ok (aJ aA) ⟨[some<|.ref 0,some<|.int i,some<|.int j,some<|.int 4,some<|eV low high d x y],aY b R t⟩:=pg (by kernel_rfl) (by rw[a0];exact bb<|Nat.le_trans f<|by decide) u;obtain⟨b',R',C,B⟩:=r aF T0 l n b R t (ck 0x100e3d0900689c0218100e3d09006895228120e21829280 [_,_] ι f v) h0 w;exact⟨b',R',π pa [.c<|e aF T0 l n b R t p h0 w,.l A,.c C],B.more<|aV 0x100e9522819c0218120e21829280 [_,_] ι f⟩
theorem Ae(c:vl T i j)(p:Int):ka (λbN h=>ef (Λ "open_rectangle") [.ref 0,.int i,.int j,.int 4] 82 T p (.ok .none) bN h) λbN h=>bN.length<=T.length+40500:=by
 refine Θ λK=>?_;obtain⟨low,high,d,x,y,S,g,f,u,e⟩:=nI c;have r:=S.x0;have k:=S.Kq;obtain⟨aA,G,I,H⟩:=l7 (caps:=[some<|eV low high d x y,some<|.int 4]) (λo w=>w.length<=o.length+980) d λo q=>by obtain⟨w,E,F⟩:=Aw (Nat.le_trans (u o q)<|by decide) r (Int.le_trans k g) g<|Int.le_trans r k;exact⟨w,Nat.le_trans E<|Nat.add_le_add_left (by decide) _,λσ h0=>aa.run (m:=iX) [.c<|F σ]⟩
 have J:=c.len;obtain⟨bN,h,s,A⟩:=iO S (Int.le_trans k g) (Int.le_trans k g) G I (ck 0x100e1e8480689d3d4380100e16e36068120e3d43829280 [_,_] ι f J) p;refine K ⟨bN,h,λaF T0 l n b R t z h0 w=>?_,(ck 0x100e99e34482100e9d3d43802120e3d43829280 [_,_,_] ι f A)⟩;obtain⟨L,v⟩:=H (aY b R t) none h0.dE;have B:iY ⟨[some<|.ref 0,some<|.int i,some<|.int j,some<|.int 4,some<|eV low high d x y],aY b R t⟩=.ok (aJ aA) ⟨[some<|.ref 0,some<|.int i,some<|.int j,some<|.int 4,some<|eV low high d x y],aY b R t⟩:=pg (by kernel_rfl) (by rw[a0];exact bb<|Nat.le_trans f<|by decide) v;obtain⟨b',R',D,C⟩:=s aF T0 l n b R t (ck 0x100e3d0900689c0218100e3d09006895228120e21829280 [_,_] ι f z) h0 w;exact⟨b',R',π lb [.c<|e aF T0 l n b R t p h0 w,.l B,.c D],C.more<|aV 0x100e9522819c0218120e21829280 [_,_] ι f⟩
theorem wK{D:List Int}(B:D.length<=2)(c:vl T i j)(p:Int):ka (λbN h=>ef (Λ "string_rectangle") [.ref 0,.int i,.int j,.list<|zs D,.int 4] 82 T p (.ok .none) bN h) λbN h=>bN.length<=T.length+40500:=by
 refine Θ λL=>?_;obtain⟨low,high,d,x,y,S,g,f,s,e⟩:=nI c;have N:=S.x0;have k:=S.Kq;obtain⟨aA,I,J,H⟩:=l7 (caps:=[some<|.list<|zs D,some<|eV low high d x y,some<|.int 4]) (λo w=>w.length<=o.length+980) d λo q=>by obtain⟨w,F,G⟩:=DM (Nat.le_trans (s o q)<|by decide) B (Int.le_trans k g) g;exact⟨w,F,λσ h0=>aa.run (m:=hY) [.c<|G σ]⟩
 have K:=c.len;obtain⟨bN,h,r,z⟩:=iO S (Int.le_trans k g) g I J (ck 0x100e1e8480689d3d4380100e16e36068120e3d43829280 [_,_] ι f K) p;refine L ⟨bN,h,λaF T0 l n b R t v h0 w=>?_,(ck 0x100e99e34482100e9d3d43802120e3d43829280 [_,_,_] ι f z)⟩;obtain⟨M,u⟩:=H (aY b R t) none h0.dE;have A:hZ ⟨[some<|.ref 0,some<|.int i,some<|.int j,some<|.list<|zs D,some<|.int 4,some<|eV low high d x y],aY b R t⟩=.ok (aJ aA) ⟨[some<|.ref 0,some<|.int i,some<|.int j,some<|.list<|zs D,some<|.int 4,some<|eV low high d x y],aY b R t⟩:=pg (by kernel_rfl) (by rw[a0];exact bb<|Nat.le_trans f<|by decide) u;obtain⟨b',R',E,C⟩:=r aF T0 l n b R t (ck 0x100e3d0900689c0218100e3d09006895228120e21829280 [_,_] ι f v) h0 w;exact⟨b',R',π jP [.c<|e aF T0 l n b R t p h0 w,.l A,.c E],C.more<|aV 0x100e9522819c0218120e21829280 [_,_] ι f⟩
inductive VI(T:List Int)(i j p:Int):Prop
 |mk (aA bN bB:_):Kept aA->ef (Λ "kill_rectangle") [.ref 0,.int i,.int j,.int 4] 82 T p (.ok (.list (aJ aA))) bN bB->bN.length<=T.length+40500->VI T i j p
theorem PM(c:vl T i j)(p:Int):VI T i j p:=by refine Θ λo=>?_;obtain⟨aA,e,k⟩:=E6 c;obtain⟨bN,g,H,m⟩:=wJ c p;refine o ⟨aA,bN,g,e,λaF T0 l n b R t f h0 w=>?_,m⟩;obtain⟨b',R',d,h⟩:=H aF T0 l n b R t f h0 w;exact⟨b',R',π la [.c<|k aF T0 l n b R t p h0 w,.c d],h⟩
end
theorem mS{L A C:List ζ}{e:Int}(b:L=A++C)(d:L.length<=sizeLine)(c:e=A.length)(a:aD):ic (.list L) .none (.int e) a=.ok (.list A) a:=by
 subst c b;have h:fx (A++C) none (some (A.length:Int))=A:=by have:=BV (xs:=A++C) (zero_le _) (by rw[Δ];exact le_add_right _ _);rw[drop_zero,Nat.sub_zero,take_left]at this;exact this
 show Res.of (if(A++C).length<=sizeLine then some (ζ.list<|fx (A++C) none<|some (A.length:Int),a)else none)=_;rw[h];exact Res.d4 d
theorem Ie{L A C:List ζ}{s:Int}(b:L=A++C)(d:L.length<=sizeLine)(c:s=A.length)(a:aD):ic (.list L) (.int s) .none a=.ok (.list C) a:=by
 subst c b;have h:fx (A++C) (some (A.length:Int)) none=C:=by show((A++C).drop<|clipAt (A++C).length A.length).take ((A++C).length-clipAt (A++C).length A.length)=_;rw[gV (by rw[Δ];exact le_add_right _ _),drop_left,Δ,Nat.add_sub_cancel_left,take_length]
 show Res.of (if(A++C).length<=sizeLine then some (ζ.list<|fx (A++C) (some (A.length:Int)) none,a)else none)=_;rw[h];exact Res.d4 d
theorem hp(us vs:List<|List Int):aJ (us++vs)=aJ us++aJ vs:=List.map_append ..
theorem EX{caps:List<|Option ζ}(P:Nat->List Int->Prop):∀k i:Nat,(∀j,i<=j->j<i+k->∃w,P j w/\∀σ,d ⟨some (.int j)::caps,σ⟩=.ok (.list<|zs w) ⟨some (.int j)::caps,σ⟩)->
 oX (λ(ns:List<|List Int)=>ns.length=k) (λ(ns:List<|List Int)=>(∀(j:Nat) w,ns[j]?=some w->P (i+j) w)) (λ(ns:List<|List Int)=>∀σ q,∃b,ec (bh 0) d (bI i 1 k) ⟨q::caps,σ⟩=.ok (aJ ns) ⟨b::caps,σ⟩):=by
 intro g
 induction g with
 |zero=>exactλi x=>⟨[],rfl,λj w e=>qs e,λσ q=>⟨q,rfl⟩⟩
 |succ k c=>
  intro i h;obtain⟨w,l,m⟩:=h i (Nat.le_refl _)<|Nat.lt_add_of_pos_right<|succ_pos _;obtain⟨ns,n,o,H⟩:=c (i+1) λj a1 a2=>h j (le_of_succ_le a1)<|aV 0x101e9911821001e92911810 [_,_,_] ι a2;refine⟨w::ns,congrArg (·+1) n,λj f a=>?_,λσ q=>?_⟩
  ·cases j with
   |zero=>cases a;exact l
   |succ j=>have:=o j f a;rw[Nat.add_right_comm]at this;exact this
  ·obtain⟨b,e⟩:=H σ<|some<|.int i;refine⟨b,?_⟩;rw[b0];show(ee<|d ⟨some (.int i)::caps,σ⟩).bind _=_;rw[m σ];show(ec (bh 0) d (bI ((i:Int)+1) 1 k) ⟨some (.int i)::caps,σ⟩).bind _=_;rw[show((i:Int)+1)=((i+1:Nat):Int)from rfl,e];rfl
theorem SD(d:L.length<=4000){c:Int}(h0:0<=c)(b:c<=160):∃w:Int,∀σ,Λ "row_columns_from" [.list<|zs L,.int c,.int 4] σ=.ok (.int w) ⟨[],σ⟩:=by obtain⟨w,_,_,e⟩:=sH (L:=List.replicate c.toNat 32++L)<|bb (by rw[Δ,length_replicate];exact(fB 0x100e8000106890108e0b106ea028000efa0380 [_,_] [_] ι d b<|toNat_of_nonneg<|bP 0x106e00806e008 [] [_] ι h0));exact⟨w-c,λσ=>π pd [.v<|uK (x:=32) (n:=c) (bP 0x106e100000078006ea0280 [] [_] ι b)<|bP 0x106e0a1000000780806e008 [] [_] ι h0,.v<|gS (L:=List.replicate c.toNat 32) (M:=L) (bb (by rw[length_replicate];exact(fB 0x100e8000106890108e0b106ea028000efa0380 [_,_] [_] ι d b<|toNat_of_nonneg<|bP 0x106e00806e008 [] [_] ι h0))) rfl,.c<|e σ]⟩
theorem MC(g f:ζ)(c w:Int)(L:List Int)(l:L.length<=4000000):∀(k i:Nat) (b:Int),i+k=L.length->∃q m:Int,∀σ,c4 kx.d kv.d ⟨[some g,some<|.int c,some f,some<|.int 4,some<|.list<|zs L,some<|.int w,some<|.int i,some<|.int b],σ⟩=.ok .next ⟨[some g,some<|.int c,some f,some<|.int 4,some<|.list<|zs L,some<|.int w,some<|.int q,some<|.int m],σ⟩:=by
 have hz:=bb<|Nat.le_trans l (by decide:4000000<=8388624)
 intro k
 induction k with
 |zero=>exactλi b d=>⟨i,b,λσ=>dx<|aa.run [.v<|lenZ hz,.F<|f5 (p:=(i:Int)<L.length)<|aV 0x10aeb1b012e19080 [_,_] ι d,.k]⟩
 |succ k n=>
  intro i b d;by_cases q:b<c+w
  ·obtain⟨A,C,s,h⟩:=nJ (i:=i+1)<|aV 0x100e29118002e29911810 [_,_,_] ι d;obtain⟨j,_,_,e⟩:=sH<|bb<|hB 0x100e80001068302e91181302e0991182100e3d0900680 [_,_,_,_] ι l d h;obtain⟨o,r,H⟩:=n (i+1) j<|aV 0x102e2919118002e29911810 [_,_,_] ι d;exact⟨o,r,λσ=>jz (aa.run [.v<|lenZ hz,.T<|e2 (p:=(i:Int)<L.length)<|aV 0x107eb2b002e29911810 [_,_,_] ι d,.T<|e2 q,.k]) (aa.run (a':=⟨[some g,some<|.int c,some f,some<|.int 4,some<|.list<|zs L,some<|.int w,some<|.int (i+1:Nat),some<|.int j],σ⟩) [.v (xa s hz<|by rw[h]),.c<|e σ])<|H σ⟩
  ·exact⟨i,b,λσ=>dx<|aa.run [.v<|lenZ hz,.T<|e2 (p:=(i:Int)<L.length)<|aV 0x107eb2b002e29911810 [_,_,_] ι d,.F<|f5 q,.k]⟩
theorem uG{α:Type}{L:List α}(h:L≠[]):∃D u,L=D++[u]:=by
 rcases eq_nil_or_concat L with q|⟨D,u,q⟩
 ·exact(h q).elim
 ·exact⟨D,u,by rw[q,concat_eq_append]⟩
theorem JJ{b:List<|List Int}(m:b≠[])(h:aA≠[])(f:er b<=4000000)(p:∀u∈aA,u.length<=812)(i:aA.length<=41){c:Int}(h0:0<=c)(g:c<=160):∃q:Int,∀σ,Λ "behind_last" [.list<|aJ b,.int c,.list<|aJ aA,.int 4] σ=.ok (.int q) ⟨[],σ⟩:=by
 refine Θ λs=>?_;obtain⟨D,u,rfl⟩:=uG m;obtain⟨E,v,rfl⟩:=uG h;have j:=Nat.le_trans (qD<|List.mem_append_right D<|List.mem_singleton.mpr (rfl:u=u)) f;have r:=Nat.le_trans (BZ _) f;obtain⟨w,o⟩:=SD (Nat.le_trans (p v<|List.mem_append_right E<|List.mem_singleton.mpr rfl)<|by decide) h0 g;obtain⟨q,t,H⟩:=MC (.list<|aJ<|D++[u]) (.list<|aJ<|E++[v]) c w u j u.length 0 0<|Nat.zero_add _;have e:(aJ<|D++[u]).length<=sizeLine:=by rw[a0];exact bb<|aV 0x100e80001068000e3d0900680 [_] ι r
 have d:(aJ<|E++[v]).length<=sizeLine:=by rw[a0];exact bb<|aV 0x100e80001068000e29280 [_] ι i
 have n:((D++[u]).length:Int)-1=D.length:=by rw[Δ];exact Int.add_sub_cancel (D.length:Int) 1
 have l:((E++[v]).length:Int)-1=E.length:=by rw[Δ];exact Int.add_sub_cancel (E.length:Int) 1
 exact s ⟨q,λσ=>π wB [.v (eT e<|by rw[a0]),.v (gJ (k:=((D++[u]).length:Int)-1) (lU rfl) e<|by rw[n,a0]),.v (eT d<|by rw[a0]),.v (gJ (k:=((E++[v]).length:Int)-1) (lU rfl) d<|by rw[l,a0]),.c<|o σ,.s<|H σ]⟩
section
variable {p:Int}
noncomputable def sT(c k j f:ζ)(b l:Int)(i h d e g:Option ζ):List<|Option ζ:=[some<|.ref 0,some c,some k,some j,some f,some<|.int b,some<|.int l,i,h,d,e,g]
inductive VP(T A1 B:List Int)(k:Nat)(P:Int->Prop):Prop
 |mk (mr dW:List Int) (fM:Int):T=A1++(mr++dW)->fM=(A1.length:Int)+mr.length+1->mr.count 10<=B.count 10+k->P fM->VP T A1 B k P
theorem TF(low:Int)(y x r s:ζ):∀(k:Nat) (j:Int) (B S:List Int) (i:Int),T=A1++(B++S)->i=A1.length+B.length+1->(S=[]\/∃Z,S=10::Z)->VP T A1 B k λn=>∀u t b p q h d f g,gN b T p->∃o,ae5 (cE (bh 7) gs.d) (bI j 1 k) ⟨sT y x r s low i q h d f g,aQ u b t⟩=.ok .next ⟨sT y x r s low n o h d f g,aQ u b t⟩:=by
 intro N
 induction N with
 |zero=>exactλj B S i m l M=>⟨B,S,i,m,l,Nat.le_refl _,λu t b p q h d f g X=>⟨q,rfl⟩⟩
 |succ k I=>
  intro j B S i m l M;rcases M with rfl|⟨Z,rfl⟩
  ·obtain⟨D,A,n,E,F,w,H⟩:=I (j+1) B [] i m l<|.inl rfl;refine⟨D,A,n,E,F,(aV 0x100e9911821000e9210 [_,_,_] ι w),λu t b p q h d f g c=>?_⟩;obtain⟨o,e⟩:=H u t b p (some<|.int j) h d f g c;have z:=c.fJ;rw[m,append_nil,Δ]at z;rw[b0];exact⟨o,cD (aa.run (a:=⟨sT y x r s low i (some<|.int j) h d f g,aQ u b t⟩) [.F<|f5 (p:=i<b.fJ)<|cP 0x10ae1008e9118b910118e91189b1b00 [_,_] [_,_] ι l z]) e⟩
  ·obtain⟨C,hv,rfl,K,J⟩:=ph Z;have G:T=A1++(B++[10])++(C++hv):=by rw[m];simp only[bp,singleton_append]
   obtain⟨v,L,O⟩:=nO J K G (i:=i+1) (by simp only[Δ,length_singleton];exact(bP 0x108e9118b99118109118008e91189b1b00 [_,_] [_] ι l));obtain⟨D,A,n,E,F,w,H⟩:=I (j+1) (B++[10]++C) hv v (by rw[G];simp only[bp]) (by simp only[Δ,length_singleton]at L⊢;exact(bP 0x108e91189b9291181b0008e91189b2b99118100 [_,_,_] [_] ι L)) J;refine⟨D,A,n,E,F,?_,λu t b p q h d f g c=>?_⟩
   ·rw[List.count_append,List.count_append,show C.count 10=0 from K,show[(10:Int)].count 10=1 from rfl]at w;exact(aV 0x100e9911821000e92908911810 [_,_,_] ι w)
   ·obtain⟨o,e⟩:=H u t b p (some<|.int j) h d f g c;have z:=c.fJ;rw[m,Δ,Δ,length_cons]at z;rw[b0];exact⟨o,cD (aa.run (a:=⟨sT y x r s low i (some<|.int j) h d f g,aQ u b t⟩) [.T<|e2 (p:=i<b.fJ)<|cP 0x107e1018e9118b999118210108e91189b1b00 [_,_,_] [_,_] ι l z,.c<|O u t b p c]) e⟩
end
theorem Hf{K:Nat}:∀{os ns:List<|List Int},ns.length=os.length->(∀(i:Nat) o w,os[i]?=some o->ns[i]?=some w->w.length<=o.length+K)->er ns<=er os+os.length*K
 |[],[],_,_=>zero_le _
 |o::os,w::ns,h,H=>by have c:=H 0 o w rfl rfl;refine(?_:w.length+1+er ns<=o.length+1+er os+(os.length+1)*K);simp only[succ_mul];exact(ck 0x100e99259491181939118000e954300e9210 [_,_,_,_,_,_] ι c<|Hf (Nat.succ.inj h) λi o w a b=>H (i+1) o w a b)
theorem BY{K:Nat}:∀{ns:List<|List Int},(∀w∈ns,w.length<=K)->er ns<=ns.length*(K+1)
 |[],_=>zero_le _
 |w::ns,H=>by have b:=H w<|.head _;refine(?_:w.length+1+er ns<=(ns.length+1)*(K+1));simp only[succ_mul];exact(ck 0x100e9911813929118000e3200e10 [_,_,_,_] ι b<|BY λw q=>H w<|.tail _ q)
theorem KV{α:Type}{L:List α}{i:Nat}(h:i<=L.length):ka (λA C=>L=A++C) λA C=>A.length=i:=⟨L.take i,L.drop i,(take_append_drop i L).symm,length_take_of_le h⟩
theorem at2{α:Type}{L:List α}{i:Nat}(h:i<L.length):B7 (λA x C=>L=A++x::C) λA x C=>A.length=i:=by
 refine Θ λc=>?_
 obtain⟨A,C,e,b⟩:=KV<|Nat.le_of_lt h
 cases C with
 |nil=>have:=congrArg length e;rw[append_nil,b]at this;exact absurd this<|Nat.ne_of_gt h
 |cons x C=>exact c ⟨A,x,C,e,b⟩
theorem se{dl:aI}{i:Nat}(h:dl a=.ok ps a):nL false i dl a=.ok .next ⟨a.ρ.set i<|some<|.list ps,a.σ⟩:=by show(yg<|dl a).bind _=_;rw[h];rfl
section
variable {p:Int}
def xc(f:Option ζ)(b e:Int)(d c:List<|List Int):List<|Option ζ:=[f,some<|.int b,some<|.int e,some<|.list<|aJ d,some<|.list<|aJ c,some<|.int 4]
theorem Od{d:List<|List Int}(h:Kept aA){c:Int}(s:c<=160)(E:∀o∈d,o.length<=1500001)(C:d.length<=aA.length):Hx (λ(f eZ:List<|List Int)=>f.length=d.length) (λ(f eZ:List<|List Int)=>f.length+eZ.length=aA.length) (λ(f eZ:List<|List Int)=>(∀(i:Nat) o w,d[i]?=some o->f[i]?=some w->w.length<=o.length+980)) (λ(f eZ:List<|List Int)=>(∀w∈eZ,w.length<=980)) (λ(f eZ:List<|List Int)=>∀σ q,∃g,ec (bh 0) eU.d (bI 0 1 aA.length) ⟨xc q c d.length d aA,σ⟩=.ok (aJ<|f++eZ) ⟨xc g c d.length d aA,σ⟩):=by
 refine Θ λJ=>?_;have A:=h.1
 obtain⟨ns,p,D,H⟩:=EX (caps:=[some<|.int c,some<|.int d.length,some<|.list<|aJ d,some<|.list<|aJ aA,some<|.int 4]) (λj w=>(∀o,d[j]?=some o->w.length<=o.length+980)/\(d.length<=j->w.length<=980)) aA.length 0 λj X t=>by
  refine Θ λx=>?_;rw[Nat.zero_add]at t;obtain⟨K,u,M,v,I⟩:=at2 t;have r:=h.2 u<|v▸List.mem_append_right _ (.head _);have B:=gJ (lU v) (by rw[a0];exact bb<|aV 0x100e80001068000e29280 [_] ι A) (by rw[a0,I]);by_cases q:j<d.length
  ·obtain⟨F,o,G,e,e'⟩:=at2 q;obtain⟨w,l,n⟩:=zl (aV 0x100e3567e068000e16e361680 [_] ι<|E o<|e▸List.mem_append_right _ (.head _)) r s;refine x ?_;refine⟨w,⟨λbu g=>?_,λg=>absurd q<|fF g⟩,λσ=>aa.run (m:=eU) [.T<|e2<|ofNat_lt.mpr q,.v (gJ (lU e) (by rw[a0];exact bb<|ck 0x100e80001068000e2928100e10 [_,_] ι C A)<|by rw[a0,e']),.v B,.c<|n σ]⟩;rw[e,←e',List.getElem?_append_right<|Nat.le_refl _,Nat.sub_self]at g;obtain rfl:=Φ g;exact l
  ·obtain⟨w,l,n⟩:=zl (L:=[]) (by simp) r s;refine x ⟨w,⟨λbu g=>absurd (b8 g).1 q,λX=>l⟩,λσ=>aa.run [.F<|f5 λz=>q<|ofNat_lt.mp z,.v B,.c<|n σ]⟩
 obtain⟨f,eZ,rfl,y⟩:=KV (by rw[p];exact C);rw[Δ]at p;refine J ⟨f,eZ,y,p,λi o w a b=>?_,λw q=>?_,λσ q=>H σ q⟩
 ·have:=(D i w (by rw[List.getElem?_append_left (b8 b).1];exact b)).1 o;rw[Nat.zero_add]at this;exact this a
 ·obtain⟨k,h⟩:=List.getElem?_of_mem q;exact(D (f.length+k) w (by rw[List.getElem?_append_right<|le_add_right _ _,Nat.add_sub_cancel_left];exact h)).2 (by rw[y,Nat.zero_add];exact le_add_right _ _)
def jT(c:List<|List Int)(h e b i:Int)(g f d:Option ζ):List<|Option ζ:=[some<|.ref 0,some<|.list<|aJ c,some<|.int 4,some<|.int h,some<|.int e,some<|.int b,some<|.int i,g,f,d,none,none]
theorem PT(ak:Kept aA)(Wu:1<=p)(FE:p<=T.length+1)(Bv:p<=41)(bJ:T.length<=1500000):ka (λbN bB=>ef (Λ "yank_rectangle") [.ref 0,.list<|aJ aA,.int 4] 84 T p (.ok .none) bN bB) λbN bB=>bN.length<=T.length+80500:=by
 refine Θ λφ=>?_;have j:=ak.1;by_cases QQ:aA=[]
 ·subst QQ;exact φ ⟨T,p,λaF T0 l n b R t V h0 w=>⟨b,R,π gg [.k,.k],w.more<|le_add_right _ _⟩,le_add_right _ _⟩
 have N:=length_pos_iff.mpr QQ;have O:(aJ aA).length<=sizeLine:=by rw[a0];exact bb<|aV 0x100e80001068000e29280 [_] ι j
 obtain⟨c,oL,ff,qI⟩:=mC (Nat.le_trans bJ<|by decide) Wu FE;obtain⟨P,Z,S,uA,b5,cp⟩:=lM Wu (Int.le_refl p) FE;have Am:=eq_nil_of_length_eq_zero<|cP 0x102e08118e91189b1b0008e9118b00 [_,_] [_] ι b5 cp;subst Am;obtain⟨A1,A,rfl,cc,aU⟩:=rM P;obtain⟨C,hv,rfl,bE,Bw⟩:=ph S;have t1:T=A1++(A++(C++hv)):=by rw[uA,bp];rfl
 replace b5:=Δ▸b5;obtain⟨low,ο,Γ⟩:=lj aU cc t1 (i:=p)<|bP 0x108e91189b1b0008e9118b9100 [_,_] [_] ι b5;obtain⟨high,cU,ab⟩:=nO Bw bE uA (i:=p) (by rw[Δ];exact(bP 0x108e9118b910008e9118b9100 [_,_] [_] ι b5));replace cU:=Δ▸cU;obtain⟨mr,dW,k,η,Q,X,z1⟩:=TF (T:=T) (A1:=A1) low (.list<|aJ aA) (.int 4) (.int p) (.int c) (aA.length-1) 0 (A++C) hv high (by rw[t1];simp only[bp]) (by rw[Δ];exact(bP 0x108e91189b921b0008e91189b2b9100 [_,_,_] [_] ι cU)) Bw;rw[List.count_append]at X;replace X:=(cc)▸X;replace X:=(bE)▸X;have I:=congrArg length η;replace I:=Δ▸I;replace I:=Δ▸I;obtain⟨d,aX,c7,fk⟩:=v5<|ck 0x100e3d090068212e99321000e16e360680 [_,_,_,_] ι bJ I;have run:∀aF T0 l n b R t,W aF T0 l n b R T p->∃v,lh (bh 7) gs.d gr ⟨jT aA b.pt c low high none none none,aY b R t⟩=.ok .next ⟨jT aA b.pt c low k v none none,aY b R t⟩:=λaF T0 l n b R t w=>by refine Θ λdk=>?_;obtain⟨v,e⟩:=z1 (.ref 4) (cb R t) b p none none none none none w.cr;replace e:=w.cr.pt▸e;have ah:gr ⟨jT aA b.pt c low high none none none,aY b R t⟩=.ok (bI 0 1 ((aA.length:Int)-1-0).toNat) ⟨jT aA b.pt c low high none none none,aY b R t⟩:=fD (aa.run (m:=γ (af (aeX .Sub) (aH a9<|γ ae ε) bK) ε) (b:=[.int<|(aA.length:Int)-1]) [.v<|eT O<|by rw[a0]]) rfl rfl (by decide) (by decide) (eB 0x106ea118b0a3b9aca008808 [_] ι)<|aV 0x106e3b9aca0088a118b000e29280 [_] ι j;rw[show((aA.length:Int)-1-0).toNat=aA.length-1 by exact(ck 0x102e2012e19118208ea08a118b1b0 [_,_,_] ι (toNat_of_nonneg<|aV 0x126e3e838a08a118b00801e008 [_] ι N)<|Nat.sub_add_cancel<|aV 0x120e3e838011801e008 [_] ι N)]at ah;exact dk ⟨v,g0 ah e⟩
 have Zw:(aJ d).length<=sizeLine:=by rw[a0];exact bb<|nB 0x100e80001068302e09118202e91118300e9290808100e29280 [_,_,_,_] ι j X c7<|Nat.sub_add_cancel<|aV 0x120e3e838011801e008 [_] ι N
 obtain⟨g,f,r,E,mW,f4,J⟩:=Od ak (c:=c) (cP 0x106ea028106eca1180418126e41829280 [] [_,_] ι Bv ff) (λo q=>by have:=qD q;exact(nB 0x100e16e36168500e4502e91182412e99321000e16e360680 [_,_,_,_,_,_] ι bJ I aX this))<|hB 0x100e3202e39118102e90118200e91908080 [_,_,_,_] ι X c7<|Nat.sub_add_cancel<|aV 0x120e3e838011801e008 [_] ι N;have vJ:(g++f).length=aA.length:=by rw[Δ];exact E
 have F:(aJ<|g++f).length<=sizeLine:=by rw[a0,vJ];exact bb<|aV 0x100e80001068000e29280 [_] ι j
 have U:∀(b:cG) R t (k low:Int) v,(∃bS,ec (bh 0) eU.d (bI 0 1 aA.length) ⟨xc none c d.length d aA,aY b R t⟩=.ok (aJ<|g++f) ⟨xc bS c d.length d aA,aY b R t⟩)->iZ ⟨jT aA b.pt c low k v (some<|.list<|aJ d)<|some<|.int d.length,aY b R t⟩=.ok (aJ<|g++f) ⟨jT aA b.pt c low k v (some<|.list<|aJ d)<|some<|.int d.length,aY b R t⟩:=λb R t k low v h=>by refine Θ λgB=>?_;obtain⟨bS,e⟩:=h;have ah:gj (γ (aH a9<|γ ae ε) ε).d ⟨jT aA b.pt c low k v (some<|.list<|aJ d)<|some<|.int d.length,aY b R t⟩=.ok (bI 0 1 ((aA.length:Int)-0).toNat) ⟨jT aA b.pt c low k v (some<|.list<|aJ d)<|some<|.int d.length,aY b R t⟩:=fD (aa.run (m:=γ (aH a9<|γ ae ε) ε) (b:=[.int aA.length]) [.v<|eT O<|by rw[a0]]) rfl rfl (by decide) (by decide) (eB 0x106eb0a3b9aca008808 [_] ι)<|aV 0x106e3b9aca0088b000e29280 [_] ι j;refine gB ?_;exact pg ah (by unfold bI;rw[length_map,length_range];exact bb<|aV 0x100e80001068000e29280 [_] ι j) e
 have g1:=Hf r mW;have g2:er f<=f.length*981:=BY f4;obtain⟨H,u,Y⟩:=uG (L:=g++f) (λq=>by rw[q,length_nil]at vJ;exact(Nat.lt_irrefl 0<|ck 0x121e3e838080812e00801e008 [_] ι N vJ));have g3:er (g++f)<=4000000:=by rw[k0];lia
 have fT:er H<=4000000:=by rw[Y,k0]at g3;exact(aV 0x100e3d090068000e3d090068910 [_,_] ι g3)
 obtain⟨K,oM,PD⟩:=v7 fT;obtain⟨q,ov⟩:=JJ (λq=>by rw[q,length_nil]at vJ;exact(Nat.lt_irrefl 0<|ck 0x121e3e838080812e00801e008 [_] ι N vJ)) QQ g3 ak.2 j oL<|cP 0x106ea028106eca1180418126e41829280 [] [_,_] ι Bv ff;by_cases NN:d.length<aA.length
 ·obtain⟨G,wN,CW⟩:=v7<|hB 0x100e3d090068300ed3d5382322e3d538092120e3d53829280 [_,_,_,_] ι j E g2;have aj:([10]++G).length=G.length+1:=by rw[Δ];exact Nat.add_comm 1 _
  have Qa:T=(A1++mr)++dW:=by rw[η,bp]
  have ZG:=rd (D:=[10]++G) (p:=p) (s:=k) (nofun) (by rw[←Qa,aj];exact(HF 0x100e40000068991185000e4500ed3d5383422e3d538193220e3d5382928100e16e360680 [_,_,_,_,_,_] ι bJ j E g2 wN)) (by rw[Δ];exact(bP 0x108e9118b910008e91189b1b00 [_,_] [_] ι Q));rw[←Qa]at ZG;have Qq:((A1++mr)++(([10]++G)++dW)).length=T.length+(G.length+1):=by simp only[Δ]at aj⊢;exact(ck 0x102e991185099395492102e9118595412e993210 [_,_,_,_,_,_] ι I aj)
  obtain⟨Mk,hQ,TN,yh⟩:=iO (T:=(A1++mr)++(([10]++G)++dW)) (low:=low) (high:=k) (c:=c) ⟨(bP 0x106e011818e9118b00 [_] [_] ι ο),by rw[Qq];exact(cP 0x106e9118b9911842012e99310208e91189b1b00 [_,_,_,_,_] [_] ι Q I),(fB 0x108e9118a01b202e91181218e91189b1b0108e9118b00 [_,_,_] [_,_] ι ο Q aX),oL,Int.le_refl c⟩ (cP 0x106ea028106eca1180418126e41829280 [] [_,_] ι Bv ff) (cP 0x106ea028106eca1180418126e41829280 [] [_,_] ι Bv ff) r mW (by rw[Qq];exact(TS 0x100e1e8480689d3d4383991186000e5600ed3d5384522e3d538194232e3d4383220e3d5382928100e16e360680 [_,_,_,_,_,_,_] ι bJ j r E g2 wN))<|if p>k then p+([10]++G).length else p;rw[Qq]at yh;have Vc:((g++f).length:Int)>1:=by rw[vJ];exact(ck 0x127e7d038b211821e3e9382032e3e938911180 [_,_,_] ι c7 NN)
  refine φ ?_;exact⟨Mk,low+(K++[10]).length+q,λaF T0 l n b R t V h0 w=>by refine Θ λdk=>?_;obtain⟨v,bQ⟩:=run aF T0 l n b R t w;obtain⟨bj,hJ,Iu,nu⟩:=ZG aF T0 l n b R t (aV 0x100e3d0900689118000e3d090068954280 [_] ι V) h0 w;obtain⟨bX,fe,Iv,lS⟩:=TN aF T0 l (n+1) bj hJ t (hB 0x100e3d0900689c12189118200e3d09006895428221e2180120e21829280 [_,_,_] ι j NN V) h0 nu;have J:=U b R t k low v<|J (aY b R t) none;have FG:=w.cr.pt;subst FG;refine dk ?_;exact⟨_,fe,π gg [.v (eT O<|by rw[a0]),.F<|hN (x:=aA.length) (y:=0)<|aV 0x12be3e83808b001e008 [_] ι N,.c<|qI (.ref 4) (cb R t) b _ w.cr,.c<|Γ (.ref 4) (cb R t) b _ w.cr,.c<|ab (.ref 4) (cb R t) b _ w.cr,.s bQ,.c<|gE (.ref 4) (cb R t) w.cr (e:=k) η ο<|bP 0x108e91189b1b0008e91189b1b00 [_,_] [_] ι Q,.c<|fk (aY b R t) h0.dE,.v (eT (n:=d.length) Zw<|by rw[a0]),.s<|se (i:=10) J,.v (eT (n:=aA.length) O<|by rw[a0]),.T<|e2 (p:=(d.length:Int)<aA.length)<|ofNat_lt.mpr NN,.v (Ie (L:=aJ<|g++f) (A:=aJ g) (C:=aJ f) (s:=d.length) (hp g f) F<|by rw[a0,r]),.c<|CW (aY b R t) h0.dE,.v<|gS (L:=[10]) (M:=G) (bb (by rw[length_singleton];exact(nB 0x100e800010689411800e3400ed3d5382322e3d538092120e3d53829280 [_,_,_,_,_] ι j E g2 wN))) rfl,.c Iu,.c<|tm (h0.dE (b:=bj) (R:=hJ)) low k d c c,.v (mS (L:=aJ<|g++f) (A:=aJ g) (C:=aJ f) (e:=d.length) (hp g f) F<|by rw[a0,r]),.c Iv,.v (eT (n:=(g++f).length) F<|by rw[a0]),.v<|mS (L:=aJ<|g++f) (A:=aJ H) (C:=aJ [u]) (e:=((g++f).length:Int)-1) (by rw[Y];exact hp H [u]) F (by rw[a0,Y,Δ];exact Int.add_sub_cancel (H.length:Int) 1),.c<|PD (aY bX fe t) h0.dE,.v (eT (n:=(g++f).length) F<|by rw[a0]),.T<|e2 (p:=((g++f).length:Int)>1) Vc,.v<|gS (L:=K) (M:=[10]) (bb (by simp only[length_cons,length_nil];exact(ck 0x100e800010689911808100e0100e3d0900680 [_,_] ι fT oM))) rfl,.v<|lenZ (L:=K++[10])<|bb (by simp only[Δ,length_cons,length_nil];exact(ck 0x100e800010689911808100e0100e3d0900680 [_,_] ι fT oM)),.c<|ov<|aY bX fe t],(lS.more<|ck 0x100e9542829c12189118221e2180120e21829280 [_,_,_] ι j NN).at_ _⟩,(TS 0x100e913a74587600e9d3d43829911857600e4500ed3d5383422e3d538093132e3d4382120e3d53829280 [_,_,_,_,_,_,_,_] ι j r E g2 wN yh)⟩
 ·obtain⟨Mk,hQ,TN,yh⟩:=iO (T:=T) (low:=low) (high:=k) (x:=c) (y:=c) (c:=c) (os:=d) (ns:=g) ⟨(bP 0x106e011818e9118b00 [_] [_] ι ο),(cP 0x106e9118b2012e99310208e91189b1b00 [_,_,_,_] [_] ι Q I),(fB 0x108e9118a01b202e91181218e91189b1b0108e9118b00 [_,_,_] [_,_] ι ο Q aX),oL,Int.le_refl c⟩ (cP 0x106ea028106eca1180418126e41829280 [] [_,_] ι Bv ff) (cP 0x106ea028106eca1180418126e41829280 [] [_,_] ι Bv ff) r mW (nB 0x100e1e8480689d3d4383022e3d438194232e3d4383220e3d4382928100e16e360680 [_,_,_,_,_] ι bJ j r E) p;by_cases Vc:((g++f).length:Int)>1
  ·refine φ ?_;exact⟨Mk,low+(K++[10]).length+q,λaF T0 l n b R t V h0 w=>by obtain⟨v,bQ⟩:=run aF T0 l n b R t w;obtain⟨bX,fe,Iv,lS⟩:=TN aF T0 l n b R t (nB 0x100e3d0900689c2218400e3d09006895428422e218093132e2182120e21829280 [_,_,_,_,_] ι j r E V) h0 w;have J:=U b R t k low v<|J (aY b R t) none;have FG:=w.cr.pt;subst FG;exact⟨_,fe,π gg [.v (eT (n:=aA.length) O<|by rw[a0]),.F<|hN (x:=aA.length) (y:=0)<|aV 0x12be3e83808b001e008 [_] ι N,.c<|qI (.ref 4) (cb R t) b _ w.cr,.c<|Γ (.ref 4) (cb R t) b _ w.cr,.c<|ab (.ref 4) (cb R t) b _ w.cr,.s bQ,.c<|gE (.ref 4) (cb R t) w.cr (A:=A1) (B:=mr) (C:=dW) (s:=low) (e:=k) η ο<|bP 0x108e91189b1b0008e91189b1b00 [_,_] [_] ι Q,.c<|fk (aY b R t) h0.dE,.v (eT (n:=d.length) Zw<|by rw[a0]),.s<|se (i:=10) J,.v (eT (n:=aA.length) O<|by rw[a0]),.F<|f5 (p:=(d.length:Int)<aA.length) λz=>NN<|ofNat_lt.mp z,.c<|tm (h0.dE (b:=b) (R:=R)) low k d c c,.v (mS (L:=aJ<|g++f) (A:=aJ g) (C:=aJ f) (e:=d.length) (hp g f) F<|by rw[a0,r]),.c Iv,.v (eT (n:=(g++f).length) F<|by rw[a0]),.v<|mS (L:=aJ<|g++f) (A:=aJ H) (C:=aJ [u]) (e:=((g++f).length:Int)-1) (by rw[Y];exact hp H [u]) F (by rw[a0,Y,Δ];exact Int.add_sub_cancel (H.length:Int) 1),.c<|PD (aY bX fe t) h0.dE,.v (eT (n:=(g++f).length) F<|by rw[a0]),.T<|e2 (p:=((g++f).length:Int)>1) Vc,.v<|gS (L:=K) (M:=[10]) (bb (by simp only[length_cons,length_nil];exact(ck 0x100e800010689911808100e0100e3d0900680 [_,_] ι fT oM))) rfl,.v<|lenZ (L:=K++[10])<|bb (by simp only[Δ,length_cons,length_nil];exact(ck 0x100e800010689911808100e0100e3d0900680 [_,_] ι fT oM)),.c<|ov<|aY bX fe t],(lS.more<|hB 0x100e9542849c2218422e218093132e2182120e21829280 [_,_,_,_,_] ι j r E).at_ _⟩,(nB 0x100e913a74585400e9d3d43825422e3d438093132e3d4382120e3d43829280 [_,_,_,_,_,_] ι j r E yh)⟩
  ·refine φ ?_;exact⟨Mk,low+(K++[]).length+q,λaF T0 l n b R t V h0 w=>by obtain⟨v,bQ⟩:=run aF T0 l n b R t w;obtain⟨bX,fe,Iv,lS⟩:=TN aF T0 l n b R t (nB 0x100e3d0900689c2218400e3d09006895428422e218093132e2182120e21829280 [_,_,_,_,_] ι j r E V) h0 w;have J:=U b R t k low v<|J (aY b R t) none;have FG:=w.cr.pt;subst FG;exact⟨_,fe,π gg [.v (eT (n:=aA.length) O<|by rw[a0]),.F<|hN (x:=aA.length) (y:=0)<|aV 0x12be3e83808b001e008 [_] ι N,.c<|qI (.ref 4) (cb R t) b _ w.cr,.c<|Γ (.ref 4) (cb R t) b _ w.cr,.c<|ab (.ref 4) (cb R t) b _ w.cr,.s bQ,.c<|gE (.ref 4) (cb R t) w.cr (A:=A1) (B:=mr) (C:=dW) (s:=low) (e:=k) η ο<|bP 0x108e91189b1b0008e91189b1b00 [_,_] [_] ι Q,.c<|fk (aY b R t) h0.dE,.v (eT (n:=d.length) Zw<|by rw[a0]),.s<|se (i:=10) J,.v (eT (n:=aA.length) O<|by rw[a0]),.F<|f5 (p:=(d.length:Int)<aA.length) λz=>NN<|ofNat_lt.mp z,.c<|tm (h0.dE (b:=b) (R:=R)) low k d c c,.v (mS (L:=aJ<|g++f) (A:=aJ g) (C:=aJ f) (e:=d.length) (hp g f) F<|by rw[a0,r]),.c Iv,.v (eT (n:=(g++f).length) F<|by rw[a0]),.v<|mS (L:=aJ<|g++f) (A:=aJ H) (C:=aJ [u]) (e:=((g++f).length:Int)-1) (by rw[Y];exact hp H [u]) F (by rw[a0,Y,Δ];exact Int.add_sub_cancel (H.length:Int) 1),.c<|PD (aY bX fe t) h0.dE,.v (eT (n:=(g++f).length) F<|by rw[a0]),.F<|f5 (p:=((g++f).length:Int)>1) Vc,.v<|gS (L:=K) (M:=[]) (bb (by simp only[length_cons,length_nil];exact(ck 0x100e80001068908100e0100e3d0900680 [_,_] ι fT oM))) rfl,.v<|lenZ (L:=K++[])<|bb (by simp only[Δ,length_cons,length_nil];exact(ck 0x100e80001068908100e0100e3d0900680 [_,_] ι fT oM)),.c<|ov<|aY bX fe t],(lS.more<|hB 0x100e9542849c2218422e218093132e2182120e21829280 [_,_,_,_,_] ι j r E).at_ _⟩,(nB 0x100e913a74585400e9d3d43825422e3d438093132e3d4382120e3d43829280 [_,_,_,_,_,_] ι j r E yh)⟩
end
theorem uu{L:List Int}(b:L.length<=sizeLine)(s e:Int):∃M:List Int,M.length<=L.length/\∀a,ic (.list<|zs L) (.int s) (.int e) a=.ok (.list<|zs M) a:=by
 refine⟨fx L (some s)<|some e,?_,λa=>?_⟩
 ·unfold fx;exact Nat.le_trans (length_take_le' ..) (by rw[length_drop];exact sub_le _ _)
 ·have:fx (zs L) (some s) (some e)=zs (fx L (some s)<|some e):=by show((zs L).drop<|clipAt (zs L).length s).take (clipAt (zs L).length e-clipAt (zs L).length s)=zs ((L.drop<|clipAt L.length s).take<|clipAt L.length e-clipAt L.length s);rw[aZ,Hr]
  rw[←this];exact Res.d4 (by rw[aZ];exact b)
theorem MM{L:List Int}(b:L.length<=sizeLine)(s:Int):∃M:List Int,M.length<=L.length/\∀a,ic (.list<|zs L) (.int s) .none a=.ok (.list<|zs M) a:=by
 refine⟨L.drop<|clipAt L.length s,by rw[length_drop];exact sub_le _ _,λa=>?_⟩;have:fx (zs L) (some s) none=zs (L.drop<|clipAt L.length s):=by show((zs L).drop<|clipAt (zs L).length s).take ((zs L).length-clipAt (zs L).length s)=_;rw[aZ,←aZ L,←length_drop,take_length,aZ];unfold zs;rw[map_drop]
 rw[←this];exact Res.d4 (by rw[aZ];exact b)
noncomputable abbrev o1:=Int×Int×List Int
def dm(r:o1):ζ:=.tup [.int r.1,.int r.2.1,.list<|zs r.2.2]
noncomputable def lF(r:Int×Int):ζ:=.tup [.int r.1,.int r.2]
theorem BS(rs:List o1):∀x∈rs.map dm,aN x:=λx h=>by obtain⟨r,_,rfl⟩:=List.mem_map.mp h;exact .tup<|ba (.int _)<|ba (.int _)<|ba (.zs _) cX
theorem BQ(rs:List<|Int×Int):∀x∈rs.map lF,aN x:=λx h=>by obtain⟨r,_,rfl⟩:=List.mem_map.mp h;exact .tup<|fp [r.1,r.2]
theorem uz{t:List Ξ}(h:∀x∈xs,aN x):jJ [] (.lst xs::t) (.ref 0)<|.list xs:=.lst rfl rfl rfl λi x y b c=>by cases b.symm.trans c;exact .old<|.data<|h x<|List.mem_of_getElem? b
theorem NO(L:List Int)(j:L.length<=4000):∀(k i:Nat) (ps:List<|Int×Int) (s:Int),i+k=L.length->ps.length<=i->ka (λ(b:List<|Int×Int) (s':Int)=>b.length<=L.length) (λ(b:List<|Int×Int) (s':Int)=>∀o,∃bu,ae5 (cE (bh 3) j7.d) (bI i 1 k) ⟨[some<|.list<|zs L,some<|.ref 0,some<|.int s,o],[.lst<|ps.map lF]⟩=.ok .next ⟨[some<|.list<|zs L,some<|.ref 0,some<|.int s',bu],[.lst<|b.map lF]⟩):=by
 intro n
 induction n with
 |zero=>exactλi ps s c d=>⟨ps,s,(ck 0x100e1200e0202e19080 [_,_,_] ι c d),λo=>⟨o,rfl⟩⟩
 |succ k f=>
  intro i ps s c d;obtain⟨A,x,C,m,l⟩:=at2 (i:=i)<|aV 0x101e2002e29911810 [_,_,_] ι c;have g:=gJ (mq m) (by rw[aZ];exact bb<|aV 0x100e80001068000efa0380 [_] ι j) (by rw[aZ,l]);by_cases q:x=10
  ·obtain⟨b,s',h,H⟩:=f (i+1) (ps++[(s,(i:Int))]) (i+1) (aV 0x102e2919118002e29911810 [_,_,_] ι c) (by rw[Δ,length_singleton];exact(aV 0x100e911819118000e10 [_,_] ι d));refine⟨b,s',h,λo=>?_⟩;obtain⟨bu,e⟩:=H<|some<|.int i;rw[List.map_append]at e;rw[b0];exact⟨bu,cD (aa.run (a:=⟨[some<|.list<|zs L,some<|.ref 0,some<|.int s,some<|.int i],[.lst<|ps.map lF]⟩) [.v g,.T<|I5 q,.u 0<|iL (L:=ps.map lF) (v:=lF (s,(i:Int))) (by rw[length_map];exact bb<|hB 0x100e80001068300e1302e0991182100efa0380 [_,_,_,_] ι j c d)]) e⟩
  ·obtain⟨b,s',h,H⟩:=f (i+1) ps s (aV 0x102e2919118002e29911810 [_,_,_] ι c)<|aV 0x100e91181000e10 [_,_] ι d;refine⟨b,s',h,λo=>?_⟩;obtain⟨bu,e⟩:=H<|some<|.int i;rw[b0];exact⟨bu,cD (aa.run (a:=⟨[some<|.list<|zs L,some<|.ref 0,some<|.int s,some<|.int i],[.lst<|ps.map lF]⟩) [.v g,.F<|hN q]) e⟩
theorem GH(c:L.length<=4000):∃ps:List<|Int×Int,ps.length<=L.length+1/\∀σ,cN σ->Λ "rows_between" [.list<|zs L] σ=.ok (.list<|ps.map lF) ⟨[],σ⟩:=by
 refine Θ λi=>?_;have hz:L.length<=sizeLine:=bb<|aV 0x100e80001068000efa0380 [_] ι c;obtain⟨ps,s,h,H⟩:=NO L c L.length 0 [] 0 (Nat.zero_add _)<|Nat.le_refl _;obtain⟨bu,e⟩:=H none;have g:j6 ⟨[some<|.list<|zs L,some<|.ref 0,some<|.int 0,none],[.lst<|[].map lF]⟩=.ok (bI 0 1 (L.length-0:Int).toNat) ⟨[some<|.list<|zs L,some<|.ref 0,some<|.int 0,none],[.lst<|[].map lF]⟩:=fD (aa.run (m:=γ (aH a9<|γ ν ε) ε) (b:=[.int L.length]) [.v<|lenZ hz]) rfl rfl (by decide) (by decide) (eB 0x106eb0a3b9aca008808 [_] ι)<|aV 0x106e3b9aca0088b000efa0380 [_] ι c;rw[Int.sub_zero,toNat_natCast]at g;have f:=g0 g e;have d:=ba (.zs L) cX;by_cases q:s<L.length
 ·refine i ?_;refine⟨ps++[(s,(L.length:Int))],by rw[Δ,length_singleton];exact(aV 0x100e911819118000e10 [_,_] ι h),λσ h0=>?_⟩;rw[mR];exact ae3 h0 (b1 (r:=.ok (.ref 0) ⟨[],[.lst<|(ps++[(s,(L.length:Int))]).map lF]⟩) (h:=[.s f,.v<|lenZ hz,.T<|e2 q,.v<|lenZ hz,.u 0 (m':=.lst<|(ps++[(s,(L.length:Int))]).map lF) (by rw[List.map_append];exact iL (v:=lF (s,(L.length:Int))) (by rw[length_map];exact bb<|ck 0x100e80001068100e0100efa0380 [_,_] ι c h))]) (by kernel_rfl) nofun) d<|uz<|BQ _
 ·refine i ⟨ps,(aV 0x100e91181000e10 [_,_] ι h),λσ h0=>?_⟩;rw[mR];exact ae3 h0 (b1 (h:=[.s f,.v<|lenZ hz,.F<|f5 q]) (by kernel_rfl) nofun) d<|uz (t:=[])<|BQ _
theorem NR(L:List Int)(o:L.length<=4000)(ps:List<|Int×Int):∀(rs:List o1),rs.length+ps.length<=5000->∃d:List o1,d.length=rs.length+ps.length/\∀f c b,∃j i g,ae5 (cE (gc [3,4]) kB.d) (ps.map lF) ⟨[some<|.list<|zs L,some<|.bool false,some<|.ref 0,f,c,b],[.lst<|rs.map dm]⟩=.ok .next ⟨[some<|.list<|zs L,some<|.bool false,some<|.ref 0,j,i,g],[.lst<|d.map dm]⟩:=by
 induction ps with
 |nil=>exactλrs x=>⟨rs,rfl,λf c b=>⟨f,c,b,rfl⟩⟩
 |cons p ps l=>intro rs h;obtain⟨s,e⟩:=p;rw[length_cons]at h;obtain⟨K,_,m⟩:=uu (bb<|aV 0x100e80001068000efa0380 [_] ι o) s e;obtain⟨d,n,H⟩:=l (rs++[(s,e,K)]) (by rw[Δ,length_singleton];exact(aV 0x100e138848919118000e1388489911810 [_,_] ι h));refine⟨d,by rw[n,Δ,length_singleton,length_cons];exact(eB 0x102e99118109191180 [_,_] ι),λf c b=>?_⟩;obtain⟨j,i,g,k⟩:=H (some<|.int s) (some<|.int e)<|some<|.list<|zs K;rw[List.map_append]at k;exact⟨j,i,g,cD (aa.run (a:=⟨[some<|.list<|zs L,some<|.bool false,some<|.ref 0,some<|.int s,some<|.int e,b],[.lst<|rs.map dm]⟩) [.v m,.k,.u 0<|iL (L:=rs.map dm) (v:=dm (s,e,K)) (by rw[length_map];exact bb<|aV 0x100e80001068000e1388489911810 [_,_] ι h)]) k⟩
theorem GJ(b:L.length<=4000):∃rs:List o1,rs.length<=L.length+1/\∀σ,cN σ->Λ "row_records" [.list<|zs L,.bool false] σ=.ok (.list<|rs.map dm) ⟨[],σ⟩:=by refine Θ λg=>?_;obtain⟨ps,h,d⟩:=GH b;obtain⟨rs,f,H⟩:=NR L b ps [] (by rw[length_nil];exact(ck 0x100e138848910800e91180100efa0380 [_,_] ι b h));obtain⟨k,j,i,e⟩:=H none none none;refine g ?_;refine⟨rs,by rw[f,length_nil];exact(aV 0x100e91181900800e911810 [_,_] ι h),λσ h0=>?_⟩;have c:kA ⟨[some<|.list<|zs L,some<|.bool false,some<|.ref 0,none,none,none],[.lst<|[].map dm]⟩=.ok (ps.map lF) ⟨[some<|.list<|zs L,some<|.bool false,some<|.ref 0,none,none,none],[.lst<|[].map dm]⟩:=uE<|aa.run (m:=Ω (Λ "rows_between")<|γ ν ε) [.c<|d [.lst []]<|.lst .nil];rw[wG];exact ae3 h0 (b1 (h:=[.s<|g0 c e]) (by kernel_rfl) nofun) (ba (.zs L)<|ba (.bool _) cX)<|uz (t:=[])<|BS _
theorem EG:∀L:List Int,fQ (zs L)=some L:=by
 intro c
 induction c with
 |nil=>exact rfl
 |cons x L b=>have b:=b;show((gd<|.int x).bind λi=>(fQ<|zs L).bind λis=>some<|i::is)=_;rw[b];rfl
theorem Nj:∀rs:List o1,(fU nY<|rs.map dm).bind (fU h4)=some (rs.map λr=>r.2.2):=by
 intro c
 induction c with
 |nil=>exact rfl
 |cons r rs b=>
  have b:=b
  cases e:fU nY (rs.map dm)with
  |none=>rw[e]at b;exact cR b
  |some ys=>rw[e]at b;show((fU nY<|rs.map dm).bind λys=>some<|ζ.list (zs r.2.2)::ys).bind (fU h4)=_;rw[e];show((h4<|.list<|zs r.2.2).bind λy=>(fU h4 ys).bind λzs=>some<|y::zs)=_;have b:fU h4 ys=some (rs.map λr=>r.2.2):=b;refine b▸((show h4 (.list<|zs r.2.2)=some r.2.2 from EG _)▸?_);rfl
theorem NQ{α:Type}{b:Bool}{l:List α}{x:α}(h:x∈katRev b l):x∈l:=by
 cases b with
 |true=>exact List.mem_reverse.mp h
 |false=>exact h
theorem D6(b:Bool)(aA:List<|List Int)(rs:List o1)(h:aA.length=rs.length):∃c:List o1,c.length=rs.length/\iz b aA (rs.map dm)=c.map dm:=by
 refine Θ λs=>?_
 obtain⟨f,j⟩:=vX<|katRev b aA
 rw[kat_len,h]at f j
 have p:∀l:List Nat,(∀x∈l,x<rs.length)->∃c:List o1,c.length=l.length/\(l.map λi=>(katRev b<|rs.map dm).getD i .none)=c.map dm:=by
  intro l
  induction l with
  |nil=>exactλz=>⟨[],rfl,rfl⟩
  |cons x l n=>
   intro g;refine Θ λo=>?_;obtain⟨c,d,e⟩:=n λy q=>g y<|.tail _ q;have k:x<(katRev b<|rs.map dm).length:=by rw[kat_len,length_map];exact g x<|.head _
   obtain⟨r,_,m⟩:=List.mem_map.mp<|NQ<|List.getElem_mem k;refine o ⟨r::c,congrArg (·+1) d,?_⟩;rw[map_cons,map_cons,e,m,getD_eq_getElem?_getD,b3 k];rfl
 obtain⟨c,d,e⟩:=p _ j
 refine s ?_
 unfold iz
 refine e▸⟨katRev b c,by rw[kat_len,d,f],?_⟩
 clear d h f
 cases b with
 |true=>exact(List.map_reverse ..).symm
 |false=>rfl
variable {rs:List o1}
theorem GI(h:rs.length<64)(v:Bool):∃os:List o1,os.length=rs.length/\∀σ,Λ "ordered" [.list<|rs.map dm,.bool v] σ=.ok (.list<|os.map dm) ⟨[],σ⟩:=by
 obtain⟨os,d,f⟩:=D6 v (rs.map λr=>r.2.2) rs<|length_map ..;refine⟨os,d,λσ=>?_⟩
 have e:oE ⟨[some<|.list<|rs.map dm,some<|.bool v],σ⟩=.ok (os.map dm) ⟨[some<|.list<|rs.map dm,some<|.bool v],σ⟩:=by
  show Res.of ((fU nY<|rs.map dm).bind λys=>(fU h4 ys).bind λc=>if(rs.map dm).length<64 then some (iz v c<|rs.map dm,_)else none)=_
  have b:=Nj rs
  cases e:fU nY (rs.map dm)with
  |none=>rw[e]at b;exact cR b
  |some ys=>replace b:=e▸b;refine(?_:Res.of ((fU h4 ys).bind λc=>if(rs.map dm).length<64 then some (iz v c<|rs.map dm,_)else none)=_);rw[show fU h4 ys=_ from b];show Res.of (if(rs.map dm).length<64 then some (iz v (rs.map λr=>r.2.2)<|rs.map dm,_)else none)=_;rw[if_pos (by rw[length_map];exact h),f];rfl
 exact π EJ [.l e]
theorem O4(p q:ζ)(a:aD):aeX .Add p q a=mB DH tx p q a:=rfl
theorem TV{i:Nat}{M:List Int}(h:L.length+M.length<=sizeLine)(a:aD)(b:a.σ[i]?=some (.lst<|zs L)):aeX .Add (.ref i) (.list<|zs M) a=.ok (.list<|zs<|L++M) a:=by
 refine Θ λc=>?_;have e:tx (.ref i) (.list<|zs M) a=.ok (.list<|zs<|L++M) a:=by show Res.of (Option.bind ((a.σ[i]?).bind dv) _)=_;rw[b,eM];exact Res.d4 (by rw[aZ,aZ];exact h)
 exact c<|(O4 _ _ a).trans<|rN rfl e
theorem DO{D E:List o1}{r:o1}(h:rs=D++r::E):rs.map dm=D.map dm++dm r::E.map dm:=by subst h;exact List.map_append ..
def Sx(L:List Int)(rs os:List o1)(v:ζ)(at_:Int)(e d c b:Option ζ):List<|Option ζ:=[some<|.list<|zs L,some<|.list<|rs.map dm,some v,some<|.list<|os.map dm,some<|.ref 0,some<|.int at_,e,d,c,b]
inductive VG(F:Option ζ->Option ζ->Option ζ->Option ζ->List (Option ζ))(x:Res aS)(σ:List Ξ):Prop
 |mk (kR hF gI eo:_):x=.ok .next ⟨F kR hF gI eo,σ⟩->VG F x σ
inductive VK(L:List Int)(rs os:List o1)(v:ζ)(k i:Nat)(at_:Int)(F:List Int):Prop
 |mk (mM:List Int) (at':Int):mM.length<=rs.length*82->(∀kR hF gI eo,VG (Sx L rs os v at') (ae5 (cE (bh 6) j5.d) (bI i 1 k) ⟨Sx L rs os v at_ kR hF gI eo,[.lst (zs F)]⟩) [.lst (zs mM)])->VK L rs os v k i at_ F
theorem NK(L:List Int)(d:L.length<=41)(rs os:List o1)(g:rs.length<64)(q:os.length=rs.length)(v:ζ):∀(k i:Nat) (F:List Int) (at_:Int),i+k=rs.length->F.length<=i*82->VK L rs os v k i at_ F:=by
 intro G
 induction G with
 |zero=>exactλi F at_ b c=>⟨F,at_,by rw[←b];exact c,λu m l j=>⟨u,m,l,j,rfl⟩⟩
 |succ k B=>
  intro i F at_ b c;obtain⟨D,r,E,e,C⟩:=at2 (i:=i)<|aV 0x101e2002e29911810 [_,_,_] ι b;obtain⟨Q,o,R,e',x⟩:=at2 (i:=i)<|ck 0x101e0202e1991183212e10 [_,_,_,_] ι q b;have K:(rs.map dm).length<=sizeLine:=by rw[length_map];exact bb<|aV 0x100e80001068001e40280 [_] ι g
  have t:(os.map dm).length<=sizeLine:=by rw[length_map];exact bb<|ck 0x100e80001068102e0101e40280 [_,_] ι g q
  have hz:L.length<=sizeLine:=bb<|aV 0x100e80001068000e29280 [_] ι d;obtain⟨f,n,J⟩:=uu hz at_ r.1;obtain⟨p,w,M⟩:=uu hz o.1 o.2.1;have y:i*82<=64*82:=mul_le_mul_right _<|ck 0x100e4028102e0991182101e40280 [_,_,_] ι g b;obtain⟨N,h,P,H⟩:=B (i+1) (F++f++p) r.2.1 (aV 0x102e2919118002e29911810 [_,_,_] ι b) (by rw[Δ,Δ];exact(nB 0x100ed5228911829493100e0400e0300ed52282120e21829280 [_,_,_,_,_] ι d c n w));obtain⟨z,I,A,O,s⟩:=H (some<|.int i) (some<|.int r.1) (some<|.int r.2.1)<|some<|.list<|zs r.2.2;refine⟨N,h,P,λu m l j=>?_⟩;rw[eM,eM]at s;rw[b0];exact⟨z,I,A,O,cD (aa.run (a:=⟨Sx L rs os v at_ (some<|.int i) m l j,[.lst<|zs F]⟩) [.v (gJ (DO e) K<|by rw[length_map,C]),.v J,.u 0<|yb (L:=zs F) (v:=.list<|zs f) (λX=>rfl) (by rw[aZ,aZ];exact bb<|nB 0x100e8000106893100ec52284028d5228200e0300ed52282100e29280 [_,_,_,_] ι d c n y),.v (gJ (DO e') t<|by rw[length_map,x]),.k,.v (gJ (DO e') t<|by rw[length_map,x]),.k,.v M,.u 0<|yb (L:=zs F++zs f) (v:=.list<|zs p) (λX=>rfl) (by rw[Δ,aZ,aZ,aZ];exact bb<|HF 0x100e800010689493100ec52284028d5228200e0400e0300ed52282120e21829280 [_,_,_,_,_] ι d c n w y)]) s⟩
theorem Vg(f:L.length<=41)(g:rs.length<64)(v:Bool):∃F:List Int,F.length<=6000/\∀σ,cN σ->Λ "put_in_order" [.list<|zs L,.list<|rs.map dm,.bool v] σ=.ok (.list<|zs F) ⟨[],σ⟩:=by
 refine Θ λn=>?_;obtain⟨os,l,k⟩:=GI g v;obtain⟨F,at_,i,H⟩:=NK L f rs os g l (.bool v) rs.length 0 [] 0 (Nat.zero_add _)<|zero_le _;obtain⟨r,q,p,o,e⟩:=H none none none none;obtain⟨M,m,c⟩:=MM (bb<|aV 0x100e80001068000e29280 [_] ι f) at_;have d:rs.length*82<=64*82:=mul_le_mul_right _<|aV 0x100e4028001e40280 [_] ι g;refine n ?_;refine⟨F++M,by rw[Δ];exact(nB 0x100e17704893100ec52284028d5228200e0300ed52282100e29280 [_,_,_,_] ι f i m d),λσ h0=>?_⟩;rw[ug]
 have j:j4 ⟨[some<|.list<|zs L,some<|.list<|rs.map dm,some<|.bool v,some<|.list<|os.map dm,some<|.ref 0,some<|.int 0,none,none,none,none],[.lst<|zs []]⟩=.ok (bI 0 1 (rs.length-0:Int).toNat) ⟨[some<|.list<|zs L,some<|.list<|rs.map dm,some<|.bool v,some<|.list<|os.map dm,some<|.ref 0,some<|.int 0,none,none,none,none],[.lst<|zs []]⟩:=
  fD (aa.run (m:=γ (aH a9<|γ ae ε) ε) (b:=[.int rs.length]) [.v<|eT (xs:=rs.map dm) (by rw[length_map];exact bb<|aV 0x120e522880001068000ec52284028d52280 [_] ι d)<|by rw[length_map]]) rfl rfl (by decide) (by simp) (eB 0x106eb0a3b9aca008808 [_] ι) (aV 0x126e52283b9aca0088b000ec52284028d52280 [_] ι d)
 exact ae3 (τ:=[.lst<|zs F]) h0 (b1 (h:=[.c<|k [],.s<|g0 j e,.v c,.w 0<|TV<|bb<|nB 0x100e8000106893100ec52284028d5228200e0300ed52282100e29280 [_,_,_,_] ι f i m d]) (by kernel_rfl) nofun) (ba (.zs L)<|ba (.list<|BS rs)<|ba (.bool _) cX)<|.old<|.data<|.zs _
section
variable {p i j:Int}
theorem PR(c:vl T i j)(v:Bool)(p:Int):ka (λbN d=>ef (Λ "sort_rows") [.ref 0,.int i,.int j,.bool v,.bool false] 84 T p (.ok .none) bN d) λbN d=>bN.length<=T.length+80500:=by
 refine Θ λI=>?_;have o:=DA i j;have r:=c.lo;have g:=c.ah;have h:=c.c5;have s:∀aF T0 l n b R t,W aF T0 l n b R T p->Λ "reached" [.ref 0,.int i,.int j] (aY b R t)=.ok (.tup [.int<|f3 i j,.int<|fm i j]) ⟨[],aY b R t⟩:=λaF T0 l n b R t w=>iA t w ⟨r,g⟩;generalize f3 i j=x at*;generalize fm i j=y at*;obtain⟨A,B,C,L,K,e⟩:=lM r o g;obtain⟨rs,P,E⟩:=GJ<|cP 0x100efa038118e91189b1b0006e29280 [_,_] [_] ι h e;obtain⟨F,G,z⟩:=Vg (cP 0x100e2928118e91189b1b0006e29280 [_,_] [_] ι h e) (fB 0x101e4028200e91181218e91189b1b0006e29280 [_,_,_] [_] ι h e P) v;have k:=c.len;obtain⟨u,bN,d,H,J⟩:=pn r o g (ck 0x100e4000006891000e177048100e16e360680 [_,_] ι k G) p;have f:∀aF T0 l n b R t,W aF T0 l n b R T p->bw 7 "codes" [.ref 0,.int x,.int y] (aY b R t)=.ok (.list<|zs B) ⟨[],aY b R t⟩:=λaF T0 l n b R t w=>gE (.ref 4) (cb R t) w.cr L K e;by_cases q:B=F
 ·refine I ⟨T,p,λaF T0 l n b R t D h0 w=>⟨b,R,?_,w.more<|le_add_right _ _⟩,le_add_right _ _⟩;have m:=π (ps:=[.ref 0,.int x,.int y,.list<|zs F]) (σ:=aY b R t) (σ':=aY b R t) (p:=.none) oq [.c<|f aF T0 l n b R t w,.v<|pP B F,.F (b:=!(B==F)) (by rw[q,beq_self_eq_true];rfl)];exact π mx [.c<|s aF T0 l n b R t w,.c<|f aF T0 l n b R t w,.c<|E (aY b R t) h0.dE,.c<|z (aY b R t) h0.dE,.c m]
 ·refine I ⟨bN,d,λaF T0 l n b R t D h0 w=>?_,(fB 0x100e913a74582108e9b0b29a01b100e177048006e10 [_,_,_] [_,_] ι o G J)⟩;refine Θ λN=>?_;obtain⟨b',R',O,M⟩:=H aF T0 l n b R t (aV 0x100e3d0900689218000e3d090068954280 [_] ι D) h0 w;have m:=π (ps:=[.ref 0,.int x,.int y,.list<|zs F]) (σ:=aY b R t) (σ':=aY b' R' t) (p:=.none) oq [.c<|f aF T0 l n b R t w,.v<|pP B F,.T (b:=!(B==F)) (by rw[beq_false_of_ne q];rfl),.c O];exact N ⟨b',R',π mx [.c<|s aF T0 l n b R t w,.c<|f aF T0 l n b R t w,.c<|E (aY b R t) h0.dE,.c<|z (aY b R t) h0.dE,.c m],M.more<|eB 0x100e95428092180 [_] ι⟩
end
def ei(L:List Int):ζ:=.inst 8 [.list<|zs L,.bool false]
def pM(N:List Int):ζ:=.inst 1 [.list<|zs N]
section
variable {A:List Int}{p:Int}
theorem Cr(u:ζ)(t:List Ξ)(c:gN b T p){s:Int}(h0:1<=s)(h:T.length+1<=s):bw 7 "code_at" [.ref 0,.int s] (aQ u b t)=.ok (.int<|-1) ⟨[],aQ u b t⟩:=by have z:=c.fJ;exact π sz [.F<|f5<|Int.not_lt.mpr h0,.T<|e2 (p:=s>=b.fJ)<|cP 0x106e0108e9118b0106e09118b0 [_] [_,_] ι h z,.k]
theorem MY(C:∀y∈L,y≠-1)(F:L.length<=100){s:Int}(k:s=A.length+1):∀(M mv S:List Int),L=mv++M->T=A++(mv++S)->(∃l,S=M++l/\∀u t b p f d,gN b T p->∃n m,ae5 (cE (bh 3) hS.d) (bI mv.length 1 M.length) ⟨[some<|ei L,some<|.ref 0,some<|.int s,f,d],aQ u b t⟩=.ok .next ⟨[some<|ei L,some<|.ref 0,some<|.int s,n,m],aQ u b t⟩)\/
 (∀u t b p f d,gN b T p->∃ρ,ae5 (cE (bh 3) hS.d) (bI mv.length 1 M.length) ⟨[some<|ei L,some<|.ref 0,some<|.int s,f,d],aQ u b t⟩=.ok (.ret<|.bool false) ⟨ρ,aQ u b t⟩):=by
 intro D
 induction D with
 |nil=>exactλmv S j i=>.inl ⟨S,rfl,λu t b p f d X=>⟨f,d,rfl⟩⟩
 |cons y M z=>
  intro mv S j i
  have hz:(zs L).length<=sizeLine:=by rw[aZ];exact bb<|aV 0x100e80001068000e64280 [_] ι F
  have B:=C y<|j▸List.mem_append_right _ (.head _)
  have o:=gJ (mq j) hz (by rw[aZ])
  have v:∀(x:Int),x≠y->(∀u t b p,gN b T p->bw 7 "code_at" [.ref 0,.int<|s+mv.length] (aQ u b t)=.ok (.int x) ⟨[],aQ u b t⟩)->∀u t b p f d,gN b T p->∃ρ,ae5 (cE (bh 3) hS.d) (bI mv.length 1 (y::M).length) ⟨[some<|ei L,some<|.ref 0,some<|.int s,f,d],aQ u b t⟩=.ok (.ret<|.bool false) ⟨ρ,aQ u b t⟩:=λx E e u t b p f d c=>by refine⟨[some<|ei L,some<|.ref 0,some<|.int s,some<|.int mv.length,some<|.int x],?_⟩;rw[length_cons,b0];exact uy<|aa.run (a:=⟨[some<|ei L,some<|.ref 0,some<|.int s,some<|.int mv.length,d],aQ u b t⟩) [.c<|e u t b p c,.v o,.T (b:=!(x==y)) (by rw[hN E];rfl),.k,.k,.k]
  cases S with
  |nil=>exact .inr<|v (-1) (Ne.symm B) λu t b p c=>Cr u t c (bP 0x106e9b1011818e9118b00 [_,_] [_] ι k) (by rw[i,append_nil,Δ];exact(bP 0x106e9b109118b91018e9118b00 [_,_] [_] ι k))
  |cons x S=>
   have w:T=(A++mv)++x::S:=by rw[i,bp]
   have e:∀u t b p,gN b T p->bw 7 "code_at" [.ref 0,.int<|s+mv.length] (aQ u b t)=.ok (.int x) ⟨[],aQ u b t⟩:=λu t b p c=>o9 u t c w (by rw[Δ];exact(bP 0x108e9118b9109b1008e9118b00 [_,_] [_] ι k));by_cases q:x=y
   ·subst q;have go:∀u t b p f d,gN b T p->cE (bh 3) hS.d (.int mv.length) ⟨[some<|ei L,some<|.ref 0,some<|.int s,f,d],aQ u b t⟩=.ok .next ⟨[some<|ei L,some<|.ref 0,some<|.int s,some<|.int mv.length,some<|.int x],aQ u b t⟩:=λu t b p f d c=>aa.run (a:=⟨[some<|ei L,some<|.ref 0,some<|.int s,some<|.int mv.length,d],aQ u b t⟩) [.c<|e u t b p c,.v o,.F (b:=!(x==x)) (by rw[beq_self_eq_true];rfl),.k];have r:((mv++[x]).length:Int)=(mv.length:Int)+1:=by rw[Δ];rfl
    rcases z (mv++[x]) S (by rw[j,bp];rfl) (by rw[i,bp];rfl)with⟨l,h,H⟩|H
    ·refine .inl ⟨l,by rw[h];rfl,λu t b p f d c=>?_⟩;obtain⟨n,m,g⟩:=H u t b p (some<|.int mv.length) (some<|.int x) c;rw[r]at g;exact⟨n,m,by rw[length_cons,b0];exact cD (go u t b p f d c) g⟩
    ·refine .inr λu t b p f d c=>?_;obtain⟨ρ,g⟩:=H u t b p (some<|.int mv.length) (some<|.int x) c;rw[r]at g;exact⟨ρ,by rw[length_cons,b0];exact cD (go u t b p f d c) g⟩
   ·exact .inr<|v x q e
theorem RD(l:∀y∈L,y≠-1)(g:L.length<=100){s:Int}(q:1<=s)(v:s<=T.length+1):∃r:Bool,(r=true->∃A C,T=A++(L++C)/\s=A.length+1)/\∀u t b p,gN b T p->bw 8 "fits" [ei L,.ref 0,.int s] (aQ u b t)=.ok (.bool r) ⟨[],aQ u b t⟩:=by
 refine Θ λj=>?_;obtain⟨A,Z,C,i,f,n⟩:=lM q (Int.le_refl s) v;have k:=eq_nil_of_length_eq_zero<|cP 0x102e08118e91189b1b0008e9118b00 [_,_] [_] ι f n;subst k;have hz:L.length<=sizeLine:=bb<|aV 0x100e80001068000e64280 [_] ι g;have d:∀u t b,ry ⟨[some<|ei L,some<|.ref 0,some<|.int s,none,none],aQ u b t⟩=.ok (bI 0 1 (L.length-0:Int).toNat) ⟨[some<|ei L,some<|.ref 0,some<|.int s,none,none],aQ u b t⟩:=λu t b=>fD (aa.run (m:=γ (aH a9<|γ (ξ "codes" ν) ε) ε) (b:=[.int L.length]) [.v<|lenZ hz]) rfl rfl (by decide) (by decide) (eB 0x106eb0a3b9aca008808 [_] ι)<|aV 0x106e3b9aca0088b000e64280 [_] ι g;rw[Int.sub_zero,toNat_natCast]at d;rcases MY l g f L [] C rfl i with⟨o,h,H⟩|H
 ·refine j ?_;refine⟨true,λz=>⟨A,o,by rw[i,h];rfl,f⟩,λu t b p c=>?_⟩;obtain⟨x,w,e⟩:=H u t b p none none c;exact π A0 [.s<|g0 (d u t b) e]
 ·refine j ⟨false,nofun,λu t b p c=>?_⟩;obtain⟨ρ,e⟩:=H u t b p none none c;exact π A0 [.s<|g0 (d u t b) e]
inductive KD(T L:List Int)(s bd:Int)(P:Int->Prop):Prop
 |mk (s':Int):s<=s'->s'+L.length<=bd->(∃A C,T=A++(L++C)/\s'=A.length+1)->P s'->KD T L s bd P
theorem NH(q:∀y∈L,y≠-1)(l:L.length<=100)(f:ζ)(bd:Int)(m:bd<=T.length+1):∀(k:Nat) (s:Int),1<=s->s+k<=bd-L.length+1->(KD T L s bd λs'=>∀u t b p d,gN b T p->∃ρ,ae5 (cE (bh 4) hT.d) (bI s 1 k) ⟨[some<|ei L,some<|.ref 0,some f,some<|.int bd,d],aQ u b t⟩=.ok (.ret<|.tup [.int s',.int<|s'+L.length]) ⟨ρ,aQ u b t⟩)\/
 (∀u t b p d,gN b T p->∃h,ae5 (cE (bh 4) hT.d) (bI s 1 k) ⟨[some<|ei L,some<|.ref 0,some f,some<|.int bd,d],aQ u b t⟩=.ok .next ⟨[some<|ei L,some<|.ref 0,some f,some<|.int bd,h],aQ u b t⟩):=by
 intro v
 induction v with
 |zero=>exactλs X X=>.inr λu t b p d X=>⟨d,rfl⟩
 |succ k o=>
  intro s j i
  obtain⟨r,n,e⟩:=RD q l j<|cP 0x106e9118b0106e9118ab209b91181106e9118b00 [_,_,_] [_,_] ι m i
  cases r with
  |true=>refine .inl ⟨s,Int.le_refl s,(bP 0x106e19b1006e9118ab119b911800 [_,_] [_,_] ι i),n rfl,λu t b p d c=>⟨[some<|ei L,some<|.ref 0,some f,some<|.int bd,some<|.int s],?_⟩⟩;rw[b0];exact uy<|aa.run (a:=⟨[some<|ei L,some<|.ref 0,some f,some<|.int bd,some<|.int s],aQ u b t⟩) [.c<|e u t b p c,.k,.v<|lenZ<|bb<|aV 0x100e80001068000e64280 [_] ι l]
  |false=>
   have go:∀u t b p d,gN b T p->cE (bh 4) hT.d (.int s) ⟨[some<|ei L,some<|.ref 0,some f,some<|.int bd,d],aQ u b t⟩=.ok .next ⟨[some<|ei L,some<|.ref 0,some f,some<|.int bd,some<|.int s],aQ u b t⟩:=λu t b p d c=>aa.run (a:=⟨[some<|ei L,some<|.ref 0,some f,some<|.int bd,some<|.int s],aQ u b t⟩) [.c<|e u t b p c,.k];rcases o (s+1) (bP 0x106e9118011806e0118 [] [_] ι j) (bP 0x106e9118ab119b09118006e9118ab119b911800 [_,_] [_,_] ι i)with⟨s',w,x,z,H⟩|H
   ·refine .inl ⟨s',(bP 0x106e1006e191180 [] [_,_] ι w),x,z,λu t b p d c=>?_⟩;obtain⟨ρ,g⟩:=H u t b p (some<|.int s) c;exact⟨ρ,by rw[b0];exact cD (go u t b p d c) g⟩
   ·refine .inr λu t b p d c=>?_;obtain⟨h,g⟩:=H u t b p (some<|.int s) c;exact⟨h,by rw[b0];exact cD (go u t b p d c) g⟩
theorem RG(n:∀y∈L,y≠-1)(g:L.length<=100)(l:T.length<=2000000){s bd:Int}(i:bd<=T.length+1)(j:1<=s)(w:s<=2000001)(k:1<=bd):(KD T L s bd λs'=>∀u t b p,gN b T p->bw 8 "next" [ei L,.ref 0,.int s,.int bd] (aQ u b t)=.ok (.tup [.int s',.int<|s'+L.length]) ⟨[],aQ u b t⟩)\/
 (∀u t b p,gN b T p->bw 8 "next" [ei L,.ref 0,.int s,.int bd] (aQ u b t)=.ok .none ⟨[],aQ u b t⟩):=by
 refine Θ λh=>?_
 have hz:L.length<=sizeLine:=bb<|aV 0x100e80001068000e64280 [_] ι g
 have d:∀u t b,rz ⟨[some<|ei L,some<|.ref 0,some<|.int s,some<|.int bd,none],aQ u b t⟩=.ok (bI s 1 (bd-L.length+1-s).toNat) ⟨[some<|ei L,some<|.ref 0,some<|.int s,some<|.int bd,none],aQ u b t⟩:=λu t b=>fD (aa.run (m:=γ aC<|γ (ag (aeX .Add) (af (aeX .Sub) aT<|aH a9<|γ (ξ "codes" ν) ε) bK) ε) (b:=[.int s,.int<|bd-L.length+ 1]) [.v<|lenZ hz]) rfl rfl (bP 0x106e0a3b9aca00880806e0118 [] [_] ι j) (bP 0x106e3b9aca0088006e1e8481680 [] [_] ι w) (cP 0x106e9118ab00a3b9aca00880806e011800e64280 [_] [_] ι g k)<|cP 0x106e3b9aca00889118ab1006e9118b0000e1e8480680 [_,_] [_] ι l i
 by_cases q:s<=bd-L.length+1
 ·rcases NH n g (.int s) bd i (bd-L.length+1-s).toNat s j (bP 0x106e9118ab109b0108ea19118ab10b0 [_,_] [_,_] ι<|toNat_of_nonneg<|bP 0x106ea09118ab010806e9118ab010 [_] [_,_] ι q)with⟨s',o,r,v,H⟩|H
  ·refine h<|.inl ⟨s',o,r,v,λu t b p c=>?_⟩;obtain⟨ρ,e⟩:=H u t b p none c;exact π ub [.s<|g0 (d u t b) e]
  ·refine h<|.inr λu t b p c=>?_;obtain⟨x,e⟩:=H u t b p none c;exact π ub [.s<|g0 (d u t b) e]
 ·refine h<|.inr λu t b p c=>?_;have d:=d u t b;rw[show(bd-L.length+1-s).toNat=0 by exact(aV 0x102e08002e080 [_] ι<|toNat_of_nonpos<|bP 0x106e08a09118ab0109e9118ab010 [_] [_,_] ι q)]at d;exact π ub [.s<|g0 (f:=bh 4) (m:=hT.d) d rfl]
end
noncomputable def iK:ζ:=.tup [.str 7,.none]
def eL(L N:List Int)(bd:Int)(st:Nat)(s e:Int)(eE:ζ)(b:Bool)(many:Int)(S:List ζ):List Ξ:=[.obj 3 [some<|.ref 0,some<|ei L,some<|pM N,some<|.int bd,some<|.str st,some<|.int s,some<|.int e,some .none,some eE,some<|.bool b,some<|.int many,some<|.ref 8],.lst S]
variable {many:Int}
section
variable {p:Int}
theorem Gb{bd:Int}{st:Nat}{s e:Int}{eE:ζ}{b:Bool}{S:List ζ}:cN<|eL L N bd st s e eE b many S:=.obj<|.lst .nil
theorem CX{x y:Int}(j:1<=x)(f:x<y)(k:y<=T.length+1)(p:Int):B7 (λv bN i=>ef (Λ "replace") [.ref 0,.int x,.int y,.list<|zs []] 1 T p (.ok v) bN i) λv bN i=>(bN.length:Int)+(y-x)=T.length:=by
 refine Θ λs=>?_;have c:=Int.le_of_lt f;obtain⟨A,B,C,rfl,g,d⟩:=lM j c k;have r:B≠[]:=λq=>by have:=length_eq_zero_iff.mpr q;exact(Nat.lt_irrefl 0<|oJ 0x121e3e838080802e08108e91189b1b0118e9118b0007e10 [_,_] [_,_] ι f g d this)
 refine s ?_;refine⟨.list<|zs B,A++C,if p>f3 x y then fm (f3 x y) (p-(fm x y-f3 x y))else p,λaF T0 l n b R t m h0 w=>?_,by simp only[Δ];exact(cP 0x108eb992109a01b92008e91189b1b0118e9118b00 [_,_,_] [_,_] ι g d)⟩;have h:=iA t w (by rw[jF c,jG c];exact⟨j,k⟩);obtain⟨b',R',e,o⟩:=rP r ((jF c).trans g) ((jG c).trans d) aF T0 l n b R t m h0 w;rw[jF c,jG c]at h;exact⟨b',R',π ik [.c<|dS (.ref 4) b<|cb R t,.c h,.F<|hN (x:=x) (y:=y)<|bP 0x10be1007e10 [] [_,_] ι f,.k,.k,.c e],o⟩
theorem RF(σ:List Ξ)(x y z:ζ):bw 8 "near" [ei L,x,y,z] σ=.ok iK ⟨[],σ⟩:=π Mx []
theorem RI(σ:List Ξ):bw 8 "told" [ei L] σ=.ok .none ⟨[],σ⟩:=π Mz []
theorem RH(σ:List Ξ)(x:ζ):bw 8 "tell" [ei L,x] σ=.ok .none ⟨[],σ⟩:=π My []
theorem RE(b:N.length<=100)(σ:List Ξ)(x y z:ζ):bw 1 "made" [pM N,x,y,z] σ=.ok (.list<|zs N) ⟨[],σ⟩:=by have e:rx ⟨[some<|pM N,some x,some y,some z],σ⟩=.ok (zs N) ⟨[some<|pM N,some x,some y,some z],σ⟩:=uq (q:=.list<|zs N) (by kernel_rfl) (by kernel_rfl) (by rw[aZ];exact bb<|aV 0x100e80001068000e64280 [_] ι b);exact π Ms [.l e]
def kS(s:Int)(L N:List Int):ζ:=.inst 2 [.int s,.list<|zs L,.list<|zs N,.bool true,.none,.int 1]
theorem RY{σ:List Ξ}(h:cN σ)(s:Int)(L N:List Int):fW 2 [.int s,.list<|zs L,.list<|zs N,.bool true,.none,.int 1] σ=.ok (kS s L N) ⟨[],σ⟩:=by have d:=ba (.int s)<|ba (.zs L)<|ba (.zs N)<|ba (.bool true)<|ba .none<|fp [1];rw[ab4];exact ae3 h (kZ<|b1 (h:=[]) (by kernel_rfl) nofun) d<|mY d
theorem Nz(b:cG)(R:List ζ)(L N:List Int)(bd s e:Int)(eE:ζ)(c:Bool)(many:Int)(S:List ζ)(s' e':Int):bw 3 "stand" [.ref 7,.int s',.int e',.none,.bool true] (aY b R<|eL L N bd 4 s e eE c many S)=.ok .none ⟨[],aY {b with pt:=e'} R<|eL L N bd 4 s' e' iK c many S⟩:=π HN [.k,.c<|RF (L:=L) (aY b R<|.obj 3 [some<|.ref 0,some<|ei L,some<|pM N,some<|.int bd,some<|.str 4,some<|.int s',some<|.int e',some .none,some eE,some<|.bool c,some<|.int many,some<|.ref 8]::[.lst S]) (.ref 0) (.int e')<|.int bd]
theorem RN(b:cG)(R:List ζ)(L N:List Int)(bd s e:Int)(eE:ζ)(c:Bool)(many:Int)(S:List ζ){s' e':Int}(h:s'<e'):bw 3 "meet" [.ref 7,.tup [.int s',.int e'],.none] (aY b R<|eL L N bd 4 s e eE c many S)=.ok .none ⟨[],aY {b with pt:=e'} R<|eL L N bd 4 s' e' iK false many S⟩:=by refine Θ λf=>?_;have d:=Nz b R L N bd s e eE c many S s' e';rw[←e2 h]at d;exact f<|π Mt [.k,.k,.k,.k,.c d]
theorem F9(l:∀y∈L,y≠-1)(t:L.length<=100)(r:L≠[])(i:T.length<=2000000){s bd:Int}(h:bd<=T.length+1)(j:1<=s):(KD T L s bd λs'=>∀b p R f d eE e many S,gN b T p->bw 3 "look" [.ref 7,.int s] (aY b R<|eL L N bd 4 f d eE e many S)=.ok .none ⟨[],aY {b with pt:=s'+L.length} R<|eL L N bd 4 s' (s'+L.length) iK false many S⟩)\/
 (∀b p R f d eE e many S,gN b T p->bw 3 "look" [.ref 7,.int s] (aY b R<|eL L N bd 4 f d eE e many S)=.ok .none ⟨[],aY b R<|eL L N bd 5 f d eE e many S⟩):=by
 refine Θ λg=>?_
 have k:=length_pos_iff.mpr r
 by_cases q:s<bd
 ·rcases RG l t i h j (fB 0x106e1e848168107e0106e9118b0000e1e8480680 [_] [_,_] ι i h q) (cP 0x106e111807e1006e0118 [] [_,_] ι j q)with⟨s',m,n,o,H⟩|H
  ·exact g<|.inl ⟨s',m,n,o,λb p R f d eE e many S c=>π t9 [.T<|e2 q,.c<|H (.ref 4) (cb R<|eL L N bd 4 f d eE e many S) b p c,.k,.c<|RI (L:=L)<|aY b R<|eL L N bd 4 f d eE e many S,.c<|RN b R L N bd f d eE e many S (s':=s') (e':=s'+L.length)<|bP 0x127e3e8389b00001e008 [_] [_] ι k]⟩
  ·exact g<|.inr λb p R f d eE e many S c=>π t9 [.T<|e2 q,.c<|H (.ref 4) (cb R<|eL L N bd 4 f d eE e many S) b p c,.k]
 ·exact g<|.inr λb p R f d eE e many S c=>π t9 [.F<|f5 q,.k]
theorem Ga{A:List Int}{l:Nat}{i s bd:Int}{v:ζ}{S:List ζ}{eE:ζ}(o:L.length<=100)(d:N.length<=100)(j:S.length<=8000000)(c:T=A++(L++C))(f:s=A.length+1)(H:ef (Λ "replace") [.ref 0,.int s,.int<|s+L.length,.list<|zs N] k T p (.ok v) gL i)(g:n+k<=4000000)(w:W aF T0 l n b R T p):
 xx (λb' R'=>bw 3 "put_new" [.ref 7] (aY b R<|eL L N bd 4 s (s+L.length) eE false many S)=.ok .none ⟨[],aY b' R'<|eL L N (bd+N.length-L.length) 4 s (s+N.length) eE true (many+1)<|S++[kS s L N]⟩) aF T0 l (n+k) gL (s+N.length):=by
 refine Θ λq=>?_
 obtain⟨b',R',e,h⟩:=H aF T0 l n b R (eL L N bd 4 s (s+L.length) eE false many S) g Gb w
 have m:=gE (.ref 4) (cb R<|eL L N bd 4 s (s+L.length) eE false many S) w.cr (e:=s+L.length) c f<|bP 0x108e91189b1b09b1008e9118b00 [_,_] [_] ι f
 refine q ⟨{b' with pt:=s+N.length},R',π Cp [.k,.c<|RH (L:=L) (aY b R<|eL L N bd 4 s (s+L.length) eE false many S) .none,.c m,.c<|RE d (aY b R<|eL L N bd 4 s (s+L.length) eE false many S) (.ref 0) (.int s)<|.int<|s+L.length,.c e,.v (lenZ<|bb<|Nat.le_trans d<|by decide),.v (lenZ<|bb<|Nat.le_trans o<|by decide),.v (lenZ<|bb<|Nat.le_trans d<|by decide),.c<|RY (σ:=aY b' R'<|eL L N (bd+N.length-L.length) 4 s (s+N.length) eE false many S) (cN.dE Gb) s L N,.u 8<|iL (L:=S) (v:=kS s L N)<|bb<|aV 0x100e80001068000e7a1200680 [_] ι j],h.at_ _⟩
end
variable {g:Nat}
section
variable {p:Int}
theorem BF{bd s e:Int}{S:List ζ}{x:ζ}(c:S.length<=8000000)(h:bw 3 "look" [.ref 7,.int e] (aY b R<|eL L N bd 4 s e iK true many<|S++[x])=.ok .none ⟨[],σ'⟩):bw 3 "go_on" [.ref 7] (aY b R<|eL L N bd 4 s e iK true many<|S++[x])=.ok .none ⟨[],σ'⟩:=by
 refine Θ λf=>?_;have hz:(S++[x]).length<=sizeLine:=by rw[Δ,length_singleton];exact bb<|aV 0x100e800010689118000e7a1200680 [_] ι c
 have d:=π (ps:=[.ref 7]) (σ:=aY b R<|eL L N bd 4 s e iK true many<|S++[x]) (σ':=σ') (p:=.none) Co [.w 8<|jn hz rfl,.w 8<|LI (k:=((S++[x]).length:Int)-1) rfl hz<|cg S x,.k,.c h];exact f<|π HM [.k,.c d]
inductive HA(L N:List Int)(many:Int)(X:List Ξ->Prop)(aF:List ζ)(T0:List Int)(l n:Nat)(T:List Int)(p:Int):Prop
 |mk (b R bd s e eE g9 S:_):X (aY b R (eL L N bd 5 s e eE g9 many S))->W aF T0 l n b R T p->HA L N many X aF T0 l n T p
inductive OO(L N:List Int)(many:Int)(R:List ζ)(A:List Ξ->Prop)(aF:List ζ)(T0:List Int)(l n:Nat)(T:List Int)(p:Int):Prop
 |mk (bj Pd bD s1 Γ Sd SH ki OS:_):A (aY bj R (eL L N Pd bD s1 Γ Sd SH ki OS))->HA L N many (λσ=>bw 3 "put_all" [.ref 7] (aY bj R<|eL L N Pd bD s1 Γ Sd SH ki OS)=.ok .none ⟨[],σ⟩) aF T0 l n T p->OO L N many R A aF T0 l n T p
inductive VJ(L N:List Int)(g m:Nat)(T:List Int)(p bd s many:Int):Prop
 |mk (K bN bB Dz:_):K+bN.length<=T.length+g*m->(∀aF T0 l n b R S,n+K<=4000000->S.length+m<=8000000->W aF T0 l n b R T p->
  HA L N Dz (λσ=>c4 jw.d jv.d ⟨[some<|.ref 7],aY b R<|eL L N bd 4 s (s+L.length) iK false many S⟩=.ok .next ⟨[some<|.ref 7],σ⟩) aF T0 l (n+K) bN bB)->VJ L N g m T p bd s many
theorem RM(cH:∀y∈L,y≠-1)(P:L.length<=100)(O:L≠[])(I:(g=0/\N=[])\/(g=3/\N.length<=2)):∀(m:Nat) (T:List Int) (p bd s many:Int) (A C:List Int),T=A++(L++C)->s=A.length+1->s+L.length<=bd->bd<=T.length+1->bd-s<=m->T.length+g*m<=1000000->
 VJ L N g m T p bd s many:=by
 have i:=length_pos_iff.mpr O
 intro m
 induction m with
 |zero=>intro T p bd s many A C _ _ r _ B _;exact absurd B<|cP 0x129e3e838b08a0126e3e83819b0001e008 [_] [_,_] ι i r
 |succ m Z=>
  intro T p bd s many A C G o r t B E;refine Θ λM=>?_;have Ao:=congrArg length G;have D:N.length<=2:=by rcases I with⟨_,rfl⟩|⟨_,h⟩;exact zero_le _;exact h
  obtain⟨k,v,gL,e,q,f,H⟩:∃k v gL e,k+gL.length+g*m<=T.length+g*(m+1)/\(gL.length:Int)+L.length=T.length+N.length/\ef (Λ "replace") [.ref 0,.int s,.int<|s+L.length,.list<|zs N] k T p (.ok v) gL e:=by
   refine Θ λJ=>?_;rcases I with⟨rfl,rfl⟩|⟨rfl,h⟩
   ·obtain⟨v,gL,e,H,h⟩:=CX (x:=s) (y:=s+L.length) (bP 0x106e011818e9118b00 [_] [_] ι o) (bP 0x127e3e8389b00001e008 [_] [_] ι i) (cP 0x106e9118b19b0006e9118b1106e19b00 [_,_] [_,_] ι r t) p;refine J ?_;exact⟨1,v,gL,e,(cP 0x120e3e8389c911830829c3089111828e3e838b29a09b00b101e008 [_,_,_,_] [_] ι i h),by rw[length_nil];exact(bP 0x108e9b08b29b1b008eb29a09b10b0 [_,_,_] [_] ι h),H⟩
   ·obtain⟨v,gL,e,H,h⟩:=pn (x:=s) (y:=s+L.length) (bP 0x106e011818e9118b00 [_] [_] ι o) (OE 0x106e9b000 [_] [_] ι) (cP 0x106e9118b19b0006e9118b1106e19b00 [_,_] [_,_] ι r t) (ck 0x100e4000006890100ef4240589c91182318100e2180 [_,_,_] ι D E) p;exact J ⟨2,v,gL,e,(fB 0x120e3e8389c9118431839c43189221828e3e8389b1b39a09b00b220e3e838218101e008 [_,_,_,_,_] [_] ι i D h),(bP 0x108e9b3b29b1b008e9b3b29a09b10b0 [_,_,_,_] [_] ι h),H⟩
  have go:∀aF T0 l n b R S,n+k<=4000000->S.length<=8000000->W aF T0 l n b R T p->xx (λb' R'=>bw 3 "put_new" [.ref 7] (aY b R<|eL L N bd 4 s (s+L.length) iK false many S)=.ok .none ⟨[],aY b' R'<|eL L N (bd+N.length-L.length) 4 s (s+N.length) iK true (many+1)<|S++[kS s L N]⟩) aF T0 l (n+k) gL (s+N.length):=λaF T0 l n b R S d c w=>Ga P (Nat.le_trans D<|by decide) c G o H d w;rcases F9 (N:=N) cH P O (ck 0x100e1e848068300e9109493200ef424058910 [_,_,_,_,_] ι E q) (s:=s+N.length) (bd:=bd+N.length-L.length) (cP 0x106e9118b1ab29b3018e9b3b09b2b106e9118b00 [_,_,_,_] [_] ι t f) (bP 0x106e9b1011818e9118b00 [_,_] [_] ι o)with⟨s',g1,g2,⟨A',Y,g3,fT⟩,u⟩|u
  ·obtain⟨K,bN,bB,Q,oM,z⟩:=Z gL (s'+L.length) (bd+N.length-L.length) s' (many+1) A' Y g3 fT g2 (cP 0x106e9118b1ab29b3018e9b3b09b2b106e9118b00 [_,_,_,_] [_] ι t f) (fB 0x126e3e838b1a2ab09b2026e3e83829b2126e3e838b91181a1001e008 [_,_,_] [_,_,_] ι i B g1)<|ck 0x100ef42405894300e9109493200ef424058910 [_,_,_,_,_] ι E q;refine M ⟨k+K,bN,bB,Q,(ck 0x100e9439695000e92196500e94392910 [_,_,_,_,_,_,_] ι q oM),λaF T0 l n b R S d c w=>?_⟩;refine Θ λd6=>?_;obtain⟨bj,hJ,F,j⟩:=go aF T0 l n b R S (aV 0x100e3d09006891000e3d09006899210 [_,_,_] ι d) (aV 0x100e7a120068000e7a1200689911810 [_,_] ι c) w;obtain⟨b',R',U,s2,ab,X,V,dW,bQ,cv⟩:=z aF T0 l (n+k) {bj with pt:=s'+L.length} hJ (S++[kS s L N]) (aV 0x100e3d0900689291000e3d09006899210 [_,_,_] ι d) (by rw[Δ,length_singleton];exact(aV 0x100e7a120068919118000e7a1200689911810 [_,_] ι c))<|j.at_ _;refine d6 ?_;exact⟨b',R',U,s2,ab,X,V,dW,jz (aa.run []) (aa.run [.c F,.c<|BF (aV 0x100e7a120068000e7a1200689911810 [_,_] ι c)<|u bj _ hJ s (s+N.length) iK true (many+1) (S++[kS s L N]) j.cr]) bQ,by rw[←Nat.add_assoc];exact cv⟩
  ·refine M ⟨k,gL,s+N.length,many+1,(aV 0x100e94391000e94392910 [_,_,_,_,_] ι q),λaF T0 l n b R S d c w=>?_⟩;obtain⟨bj,hJ,F,j⟩:=go aF T0 l n b R S (aV 0x100e3d09006891000e3d090068910 [_,_] ι d) (aV 0x100e7a120068000e7a1200689911810 [_,_] ι c) w;exact⟨bj,hJ,bd+N.length-L.length,s,s+N.length,iK,true,S++[kS s L N],jz (a2:=⟨[some<|.ref 7],aY bj hJ<|eL L N (bd+N.length-L.length) 5 s (s+N.length) iK true (many+1)<|S++[kS s L N]⟩) (aa.run []) (aa.run [.c F,.c<|BF (aV 0x100e7a120068000e7a1200689911810 [_,_] ι c)<|u bj _ hJ s (s+N.length) iK true (many+1) (S++[kS s L N]) j.cr])<|dx<|aa.run [],j⟩
theorem Uc(B:∀y∈L,y≠-1)(F:L.length<=100)(D:L≠[])(O:(g=0/\N=[])\/(g=3/\N.length<=2))(z:T.length+g*T.length<=1000000){i:Int}(E:1<=i)(o:i<=T.length+1)(p:Int):Oy (λK bN c many=>K+bN.length<=T.length+g*T.length) λK bN c many=>ef (Λ "replaced_all") [.ref 0,ei L,pM N,.int i,.int<|T.length+ 1] K T p (.ok<|.int many) bN c:=by
 refine Θ λG=>?_;have S:∀y∈[ei L,pM N,.int i,.int<|T.length+ 1],aN y:=ba (.inst<|ba (.zs L)<|ba (.bool _) cX)<|ba (.inst<|ba (.zs N) cX)<|fp [i,T.length+ 1];have J:∀aF T0 l n b R,W aF T0 l n b R T p->Λ "reached" [.ref 0,.int i,.int<|T.length+ 1] (aY b R [newObj 3])=.ok (.tup [.int i,.int<|T.length+ 1]) ⟨[],aY b R [newObj 3]⟩:=λaF T0 l n b R w=>by have:=iA [newObj 3] w (by rw[jF o,jG o];exact⟨E,Int.le_refl _⟩);rw[jF o]at this;rw[jG o]at this;exact this
 have f:∀(K:Nat) (bN:List Int) (c many:Int),(∀aF T0 l n b R,n+K<=4000000->W aF T0 l n b R T p->OO L N many R (λd=>fW 3 [.ref 0,ei L,pM N,.int i,.int<|T.length+ 1] (aY b R [])=.ok (.ref 7) ⟨[],d⟩) aF T0 l (n+K) bN c)->ef (Λ "replaced_all") [.ref 0,ei L,pM N,.int i,.int<|T.length+ 1] K T p (.ok<|.int many) bN c:=λK bN c many H aF T0 l n b R t j h0 w=>by obtain⟨bj,Y,bD,s1,f1,Sd,Z,ki,X,V,b',R',q,s',e',s,r,A,v,k⟩:=H aF T0 l n b R j w;refine⟨b',R',?_,k⟩;rw[uh];exact uJ (pre:=[]) (x:=eL L N q 5 s' e' s r many A) S w.rows k.rows h0.dE rfl (b1 (h:=[.c V,.c v]) (by kernel_rfl) nofun)<|.int many
 have new:∀{aF T0 l n b R} {d:List Ξ},W aF T0 l n b R T p->bw 3 "look" [.ref 7,.int i] (aY b R<|eL L N (T.length+1) 4 i i (.tup [.str 6,.none]) false 0 [])=.ok .none ⟨[],d⟩->fW 3 [.ref 0,ei L,pM N,.int i,.int<|T.length+ 1] (aY b R [])=.ok (.ref 7) ⟨[],d⟩:=λ{aF T0 l n b R d} w h=>by rw[ab5];exact kZ (b1 (h:=[.c<|J aF T0 l n b R w,.c h]) (by kernel_rfl) nofun)
 rcases F9 B F D (aV 0x100e1e848068000ef424058910 [_,_] ι z) (Int.le_refl _) E with⟨s',g1,P,⟨A',I,Q,C⟩,u⟩|u
 ·obtain⟨K,bN,c,many,M,H⟩:=RM B F D O T.length T (s'+L.length) (T.length+1) s' 0 A' I Q C P (Int.le_refl _) (bP 0x106eb1a09118b118e9118b00 [_,_] [_] ι C) z;refine G ⟨K,bN,c,many,M,f _ _ _ _ λaF T0 l n b R j w=>?_⟩;obtain⟨b',R',q,U,v,s,r,A,e,k⟩:=H aF T0 l n _ R [] j (by rw[length_nil];exact(aV 0x100e7a120068900800ef424058910 [_,_] ι z))<|w.at_<|s'+L.length;exact⟨_,_,_,_,_,_,_,_,_,new w<|u b p R i i (.tup [.str 6,.none]) false 0 [] w.cr,b',R',q,U,v,s,r,A,π sy [.s e],k⟩
 ·refine G ⟨0,T,p,0,(eB 0x100e9109008 [_,_] ι),f _ _ _ _ λaF T0 l n b R j w=>?_⟩;exact⟨b,T.length+1,5,i,i,.tup [.str 6,.none],false,0,[],new w<|u b p R i i (.tup [.str 6,.none]) false 0 [] w.cr,b,R,T.length+1,i,i,.tup [.str 6,.none],false,[],π sy [.s<|dx (t:=jw.d) (m:=jv.d) (a:=⟨[some<|.ref 7],aY b R<|eL L N (T.length+1) 5 i i (.tup [.str 6,.none]) false 0 []⟩) (a1:=⟨[some<|.ref 7],aY b R<|eL L N (T.length+1) 5 i i (.tup [.str 6,.none]) false 0 []⟩)<|aa.run []],w⟩
end
section
variable {m:Nat}{t1 h2:List Ξ}{rD:List ζ}
theorem LL(c:pre.length=k)(d:m=k+7+t1.length):(pre++(cu k b R++(t1++.lst xs::h2)))[m]?=some (.lst xs):=by subst c d;rw[Nat.add_assoc,List.getElem?_append_right<|le_add_right _ _,Nat.add_sub_cancel_left,List.getElem?_append_right<|le_add_right 7 _,show(7+t1.length-(cu pre.length b R).length)=t1.length from Nat.add_sub_cancel_left 7 _,List.getElem?_append_right<|Nat.le_refl _,Nat.sub_self];rfl
theorem Jn(c:pre.length=k)(g:m=k+7+t1.length){i:Nat}(h:∀j,j<7->i≠k+j)(e:i≠m):(pre++(cu k b' R'++(t1++.lst rD::h2)))[i]?=(pre++(cu k b R++(t1++.lst xs::h2)))[i]?:=by
 rw[BD (b:=b) (R:=R) (b':=b') (R':=R') c h];subst c g;by_cases q:i<pre.length
 ·rw[List.getElem?_append_left q,List.getElem?_append_left q]
 ·obtain⟨j,rfl⟩:=Nat.le.dest<|Nat.le_of_not_lt q;rw[List.getElem?_append_right<|le_add_right _ _,List.getElem?_append_right<|le_add_right _ _,Nat.add_sub_cancel_left];have f:=Nat.le_of_not_lt λz=>h j z rfl;obtain⟨j,rfl⟩:=Nat.le.dest f;have d:∀u:List Ξ,(cu pre.length b R++u)[7+j]?=u[j]?:=λu=>by rw[List.getElem?_append_right<|le_add_right 7 _,show(cu pre.length b R).length=7 from rfl,Nat.add_sub_cancel_left]
  rw[d,d];by_cases z:j<t1.length
  ·rw[List.getElem?_append_left z,List.getElem?_append_left z]
  ·obtain⟨i,rfl⟩:=Nat.le.dest<|Nat.le_of_not_lt z;rw[List.getElem?_append_right<|le_add_right _ _,List.getElem?_append_right<|le_add_right _ _,Nat.add_sub_cancel_left];cases i with
   |zero=>exact(e<|by rw[Nat.add_zero,←Nat.add_assoc]).elim
   |succ i=>rfl
theorem FY{j i:Nat}(h:(yR k++[m])[j]?=some i):(j<7/\i=k+j)\/(j=7/\i=m):=by
 by_cases q:j<7
 ·rw[me [m] j q]at h;exact .inl ⟨q,(Φ h).symm⟩
 ·have b:(yR k).length=7:=rfl;obtain⟨d,rfl⟩:=Nat.le.dest<|Nat.le_of_not_lt q;rw[List.getElem?_append_right (by rw[b];exact le_add_right _ _),b,Nat.add_sub_cancel_left]at h;cases d with
  |zero=>cases h;exact .inr ⟨rfl,rfl⟩
  |succ d=>exact qs (j:=d) h
theorem UL(h:k+7<=m):(yR k++[m]).Nodup:=nodup_append.mpr ⟨LK k,nodup_cons.mpr ⟨not_mem_nil,.nil⟩,λx d y b=>by refine Θ λe=>?_;cases List.mem_singleton.mp b;obtain⟨j,c⟩:=List.getElem?_of_mem d;have:=yS c;refine e ?_;exact(hB 0x105e1302e920301e718200e197180 [_,_,_,_] ι h this.1 this.2)⟩
theorem y1{d:ζ}{x:List Ξ}(t:aN d)(u:∀r∈R,aN r)(v:∀r∈R',aN r)(w:∀r∈xs,aN r)(o:∀r∈rD,aN r)(h0:cN<|pre++(cu k b R++(t1++.lst xs::h2)))(g:pre.length=k)(l:m=k+7+t1.length)(h:con [.ref 0,d,.ref 7] (aY b R [.lst xs])=.ok q ⟨[],aY b' R'<|.lst rD::x⟩)(p:aN q):
 c3 xd con [.ref k,d,.ref m] (pre++(cu k b R++(t1++.lst xs::h2)))=.ok q ⟨[],pre++(cu k b' R'++(t1++.lst rD::h2))⟩:=by
 refine Θ λy=>?_
 have f:xd [.ref k,d,.ref m]=yR k++[m]:=rfl
 have n:(yR k++[m])[7]?=some m:=rfl
 refine y ?_
 refine jR<|.ok ?_ ⟨rfl,by rw[f];exact UL (by rw[l];exact le_add_right _ _),λj i e=>?_,λi c s e q=>by cases q;exact h0 _ (List.mem_of_getElem? e) s rfl⟩ h (.old<|.data p) ⟨by simp only[Δ,length_cons];rfl,λi q=>?_,λj i e=>?_⟩
 ·rw[f];exact .cons (.ref rfl)<|.cons (.data t)<|.cons (.ref n) .nil
 ·rw[f]at e⊢;rcases FY e with⟨z,rfl⟩|⟨rfl,rfl⟩
  ·rw[tg g j z,DU,List.getElem?_append_left z];exact qd (λj h=>me [m] j h) u j z
  ·rw[LL g l];exact⟨_,_,rfl,rfl,.data w⟩
 ·rw[f]at q;exact Jn g l (λj f e=>q<|e▸List.mem_of_getElem? (me [m] j f)) λe=>q<|e▸List.mem_append_right _ (.head _)
 ·rw[f]at e⊢;rcases FY e with⟨z,rfl⟩|⟨rfl,rfl⟩
  ·rw[tg g j z,DU,List.getElem?_append_left z];exact qd (λj h=>me [m] j h) v j z
  ·rw[LL g l];exact⟨_,_,rfl,rfl,.data o⟩
end
structure xy(q:ζ):Prop where
 data:aN q
 ne:∀a,iy q q a=.ok (.bool false) a
theorem afK(i:Int):xy<|.int i:=⟨.int i,λa=>by show Res.of ((some<|i==i).bind λb=>some (ζ.bool<|!b,a))=_;rw[beq_self_eq_true];rfl⟩
theorem afe:xy .none:=⟨.none,λx=>rfl⟩
theorem afC:xy<|.str 3:=⟨.str 3,λx=>by kernel_rfl⟩
theorem vD(n:Nat):∀aA:List<|List Int,h5 (gY<|n+2) (aJ aA) (aJ aA)=some true
 |[]=>rfl
 |u::aA=>by have c:=vD n aA;show((((mV (gY<|n+1) (zs u)<|zs u).or _)).bind λa=>(h5 (gY<|n+2) (aJ aA)<|aJ aA).bind λb=>some<|a&&b)=_;rw[c,ya,beq_self_eq_true];rfl
theorem JR(aA:List<|List Int):xy<|.list<|aJ aA:=⟨.list<|jA aA,λa=>by show Res.of ((((mV (gY 4) (aJ aA)<|aJ aA).or _)).bind λb=>some (ζ.bool<|!b,a))=_;unfold mV;rw[if_pos rfl,vD];rfl⟩
theorem eD{a b:Int}(h:0<b)(s:aD):aeX .Mod (.int a) (.int b) s=.ok (.int<|a.fmod b) s:=by show Res.of ((if b≠0 then some (ζ.int<|a.fmod b)else none).bind λz=>some (z,s))=_;rw[if_pos<|Int.ne_of_gt h];rfl
theorem qk{a b:Int}(h0:0<=a)(h:0<b):0<=a.fmod b/\a.fmod b<b/\a.fmod b<=a:=by refine Θ λd=>?_;obtain⟨n,rfl⟩:=pO h0;obtain⟨m,rfl⟩:=pO<|Int.le_of_lt h;refine d ?_;rw[fmod_eq_emod_of_nonneg _<|natCast_nonneg m];have κ:=natCast_pos.mp h;have e:((n:Int)%(m:Int))=((n%m:Nat):Int):=rfl;rw[e];have c:=mod_lt n κ;exact⟨natCast_nonneg _,ofNat_lt.mpr c,ofNat_le.mpr<|mod_le n m⟩
noncomputable def gK(w x y c:Int):ζ:=.tup [.int w,.int x,.int y,.int c]
def K1:List ζ->List Ξ->Res ζ:=av 3 none 6 pX.d
inductive xm(gm:ζ)(aA:List<|List Int)(T:List Int)(p:Int):Prop
 |mk (K bN bB q eJ:_):K+bN.length<=T.length+80700->xy q->Kept eJ->(∀aF T0 l n b R,n+K<=4000000->W aF T0 l n b R T p->xx (λb' R'=>K1 [.ref 0,gm,.ref 7] (aY b R [.lst [.list<|aJ aA]])=.ok q ⟨[],aY b' R' [.lst [.list<|aJ eJ]]⟩) aF T0 l (n+K) bN bB)->xm gm aA T p
theorem ix:cN [.lst [.list<|aJ aA]]:=.lst .nil
section
variable {p c:Int}
structure k7(T:List Int)(x y:Int):Prop where
 x0:0<=x
 lZ:x<40
 TC:0<=y
 oU:y<40
 len:T.length<=600000
noncomputable def r4(T:List Int)(x:Int):Int:=1+x.fmod (T.length+1)
noncomputable def n6(T:List Int)(y:Int):Int:=1+y.fmod (T.length+1+1)
theorem k7.i(h:k7 T x y):1<=r4 T x/\r4 T x<=T.length+1/\r4 T x<=41:=by refine Θ λe=>?_;have a1:=qk h.x0 (b:=T.length+1)<|eB 0x107e9118b008 [_] ι;have a2:=h.lZ;refine e ?_;obtain⟨a1,c,d⟩:=a1;exact⟨(by exact(bP 0x106e9011811806e008 [] [_] ι a1):1<=1+x.fmod (T.length+1)),(by exact(bP 0x106e9118b09011807e9118b00 [_] [_] ι c):1+x.fmod (T.length+1)<=T.length+1),(by exact(cP 0x106e29289111806e0107e28280 [] [_,_] ι a2 d):1+x.fmod (T.length+1)<=41)⟩
theorem k7.j(h:k7 T x y):1<=n6 T y/\n6 T y<=T.length+2/\n6 T y<=41:=by refine Θ λe=>?_;have a1:=qk h.TC (b:=T.length+1+1)<|eB 0x107e91189118b008 [_] ι;have a2:=h.oU;refine e ?_;obtain⟨a1,c,d⟩:=a1;exact⟨(by exact(bP 0x106e9011811806e008 [] [_] ι a1):1<=1+y.fmod (T.length+1+1)),(by exact(bP 0x106e9218b09011807e91189118b00 [_] [_] ι c):1+y.fmod (T.length+1+1)<=T.length+2),(by exact(cP 0x106e29289111806e0107e28280 [] [_,_] ι a2 d):1+y.fmod (T.length+1+1)<=41)⟩
theorem k7.cmd(h:k7 T x y):vl T (r4 T x) (n6 T y)\/¬(1<=f3 (r4 T x) (n6 T y)/\fm (r4 T x) (n6 T y)<=T.length+1):=by
 refine Θ λb=>?_;have a1:=h.i;have a2:=h.j;have c:=h.len;by_cases q:fm (r4 T x) (n6 T y)<=T.length+1
 ·exact b (.inl ⟨(aV 0x100e16e36068000e927c0580 [_] ι c),LP (1<=·) a1.1 a2.1,q,DB (·<=41) a1.2.2 a2.2.2⟩)
 ·exact b<|.inr λz=>q z.2
theorem c0(T:List Int):(0:Int)<T.length+1:=(eB 0x107e9118b008 [_] ι)
theorem lx(T:List Int):(0:Int)<(T.length:Int)+1+1:=(eB 0x107e91189118b008 [_] ι)
theorem qj(d:Kept aA){c:ζ}(H:∀aF T0 l n b R,W aF T0 l n b R T p->K1 [.ref 0,c,.ref 7] (aY b R [.lst [.list<|aJ aA]])=.ok (.str 3) ⟨[],aY b R [.lst [.list<|aJ aA]]⟩):xm c aA T p:=⟨0,T,p,.str 3,aA,(eB 0x100e913b3c5809008 [_] ι),afC,d,λaF T0 l n b R e w=>⟨b,R,H aF T0 l n b R w,w⟩⟩
theorem dC(h:k7 T x y)(i:Kept aA):xm (gK 1 x y c) aA T p:=by
 refine Θ λg=>?_;rcases h.cmd with C|C
 ·obtain⟨eJ,bN,m,f,H,t⟩:=PM C p;refine g ⟨82,bN,m,.list<|aJ eJ,eJ,(aV 0x100e913b3c58190522800e99e344810 [_,_] ι t),JR eJ,f,λaF T0 l n b R j w=>?_⟩;obtain⟨b',R',e,o⟩:=H aF T0 l n b R [.lst [.list<|aJ aA]] j ix w;have r:=f.1;have d:mm ⟨[some<|.ref 0,some<|gK 1 x y c,some<|.ref 7,some<|.int 1,some<|.int<|r4 T x,some<|.int<|n6 T y,some<|.int c,some<|.int<|T.length+1,none],aY b' R' [.lst [.list<|aJ eJ]]⟩=.ok (aJ eJ) ⟨[some<|.ref 0,some<|gK 1 x y c,some<|.ref 7,some<|.int 1,some<|.int<|r4 T x,some<|.int<|n6 T y,some<|.int c,some<|.int<|T.length+1,none],aY b' R' [.lst [.list<|aJ eJ]]⟩:=uq (q:=.list<|aJ eJ) (by kernel_rfl) (by kernel_rfl) (by rw[a0];exact bb<|aV 0x100e80001068000e29280 [_] ι r);exact⟨b',R',b1 (h:=[.c<|fS (.ref 4) (cb R [.lst [.list<|aJ aA]]) w.cr,.v<|eD (a:=x)<|c0 T,.v<|eD (a:=y)<|lx T,.k,.k,.c e,.k,.l d]) (by kernel_rfl) nofun,o⟩
 ·refine g<|qj i λaF T0 l n b R w=>?_;have e:=vc [.lst [.list<|aJ aA]] w C;have s:=il (ps:=[.ref 0,.int<|r4 T x,.int<|n6 T y,.int 4]) (σ:=aY b R [.lst [.list<|aJ aA]]) (σ':=aY b R [.lst [.list<|aJ aA]]) (k:=3) i6 [.e e];have d:=il (ps:=[.ref 0,.int<|r4 T x,.int<|n6 T y,.int 4]) (σ:=aY b R [.lst [.list<|aJ aA]]) (σ':=aY b R [.lst [.list<|aJ aA]]) (k:=3) la [.e s];exact b1 (h:=[.c<|fS (.ref 4) (cb R [.lst [.list<|aJ aA]]) w.cr,.v<|eD (a:=x)<|c0 T,.v<|eD (a:=y)<|lx T,.k,.k,.e d]) (by kernel_rfl) nofun
theorem d5(h:k7 T x y)(d:Kept aA):xm (gK 2 x y c) aA T p:=by refine Θ λk=>?_;have a1:=h.i;obtain⟨bN,g,H,j⟩:=PT d a1.1 a1.2.1 a1.2.2 (Nat.le_trans h.len<|by decide);refine k ⟨84,bN,g,.none,aA,(aV 0x100e913b3c58190542800e913a745810 [_,_] ι j),afe,d,λaF T0 l n b R f w=>?_⟩;obtain⟨b',R',e,i⟩:=H aF T0 l n {b with pt:=r4 T x} R [.lst [.list<|aJ aA]] f ix<|w.at_ _;exact⟨b',R',b1 (h:=[.c<|fS (.ref 4) (cb R [.lst [.list<|aJ aA]]) w.cr,.v<|eD (a:=x)<|c0 T,.v<|eD (a:=y)<|lx T,.k,.k,.k,.c<|p9 [.lst [.list<|aJ aA]] w a1.1 a1.2.1,.k,.c e]) (by kernel_rfl) nofun,i⟩
theorem xS(h:k7 T x y)(d:Kept aA):xm (gK 4 x y c) aA T p:=by
 refine Θ λf=>?_;rcases h.cmd with C|C
 ·obtain⟨bN,i,H,m⟩:=PR C (decide (c>1)) p;refine f ⟨84,bN,i,.none,aA,(aV 0x100e913b3c58190542800e913a745810 [_,_] ι m),afe,d,λaF T0 l n b R g w=>?_⟩;obtain⟨b',R',e,j⟩:=H aF T0 l n b R [.lst [.list<|aJ aA]] g ix w;exact⟨b',R',b1 (h:=[.c<|fS (.ref 4) (cb R [.lst [.list<|aJ aA]]) w.cr,.v<|eD (a:=x)<|c0 T,.v<|eD (a:=y)<|lx T,.k,.k,.k,.k,.k,.c e]) (by kernel_rfl) nofun,j⟩
 ·refine f<|qj d λaF T0 l n b R w=>?_;have e:=il (ps:=[.ref 0,.int<|r4 T x,.int<|n6 T y,.bool<|decide (c>1),.bool false]) (σ:=aY b R [.lst [.list<|aJ aA]]) (σ':=aY b R [.lst [.list<|aJ aA]]) (k:=3) mx [.e<|rB [.lst [.list<|aJ aA]] w C];exact b1 (h:=[.c<|fS (.ref 4) (cb R [.lst [.list<|aJ aA]]) w.cr,.v<|eD (a:=x)<|c0 T,.v<|eD (a:=y)<|lx T,.k,.k,.k,.k,.k,.e e]) (by kernel_rfl) nofun
theorem adq(h:k7 T x y)(d:Kept aA):xm (gK 5 x y c) aA T p:=by
 refine Θ λf=>?_;rcases h.cmd with C|C
 ·obtain⟨bN,i,H,m⟩:=Ae C p;refine f ⟨82,bN,i,.none,aA,(aV 0x100e913b3c58190522800e99e344810 [_,_] ι m),afe,d,λaF T0 l n b R g w=>?_⟩;obtain⟨b',R',e,j⟩:=H aF T0 l n b R [.lst [.list<|aJ aA]] g ix w;exact⟨b',R',b1 (h:=[.c<|fS (.ref 4) (cb R [.lst [.list<|aJ aA]]) w.cr,.v<|eD (a:=x)<|c0 T,.v<|eD (a:=y)<|lx T,.k,.k,.k,.k,.k,.c e]) (by kernel_rfl) nofun,j⟩
 ·refine f<|qj d λaF T0 l n b R w=>?_;have e:=il (ps:=[.ref 0,.int<|r4 T x,.int<|n6 T y,.int 4]) (σ:=aY b R [.lst [.list<|aJ aA]]) (σ':=aY b R [.lst [.list<|aJ aA]]) (k:=3) lb [.e<|vc [.lst [.list<|aJ aA]] w C];exact b1 (h:=[.c<|fS (.ref 4) (cb R [.lst [.list<|aJ aA]]) w.cr,.v<|eD (a:=x)<|c0 T,.v<|eD (a:=y)<|lx T,.k,.k,.k,.k,.k,.e e]) (by kernel_rfl) nofun
theorem ye(n:Nat)(P:Int->Prop){c:Int}(h:∀i:Fin n,P (i.1:Int))(h0:0<=c)(b:c<n):P c:=by obtain⟨k,rfl⟩:=pO h0;exact h ⟨k,ofNat_lt.mp b⟩
theorem af2:0<=c->c<4->c=0\/c=1\/c=2\/c=3:=ye 4 (λc=>c=0\/c=1\/c=2\/c=3) (by decide)
theorem G2{w:Int}:0<=w->w<6->w=0\/w=1\/w=2\/w=3\/w=4\/w=5:=ye 6 (λw=>w=0\/w=1\/w=2\/w=3\/w=4\/w=5) (by decide)
theorem KW(h:k7 T x y)(f:Kept aA){D:List Int}(m:D.length<=2)(d:∀a,ic (.list<|zs [88,89]) .none (.int c) a=.ok (.list<|zs D) a):xm (gK 3 x y c) aA T p:=by
 refine Θ λg=>?_;rcases h.cmd with C|C
 ·obtain⟨bN,j,H,q⟩:=wK m C p;refine g ⟨82,bN,j,.none,aA,(aV 0x100e913b3c58190522800e99e344810 [_,_] ι q),afe,f,λaF T0 l n b R i w=>?_⟩;obtain⟨b',R',e,o⟩:=H aF T0 l n b R [.lst [.list<|aJ aA]] i ix w;exact⟨b',R',b1 (h:=[.c<|fS (.ref 4) (cb R [.lst [.list<|aJ aA]]) w.cr,.v<|eD (a:=x)<|c0 T,.v<|eD (a:=y)<|lx T,.k,.k,.k,.k,.v d,.c e]) (by kernel_rfl) nofun,o⟩
 ·refine g<|qj f λaF T0 l n b R w=>?_;have e:=il (ps:=[.ref 0,.int<|r4 T x,.int<|n6 T y,.list<|zs D,.int 4]) (σ:=aY b R [.lst [.list<|aJ aA]]) (σ':=aY b R [.lst [.list<|aJ aA]]) (k:=3) jP [.e<|vc [.lst [.list<|aJ aA]] w C];exact b1 (h:=[.c<|fS (.ref 4) (cb R [.lst [.list<|aJ aA]]) w.cr,.v<|eD (a:=x)<|c0 T,.v<|eD (a:=y)<|lx T,.k,.k,.k,.k,.v d,.e e]) (by kernel_rfl) nofun
theorem Pu(h:k7 T x y)(b:Kept aA)(h0:0<=c)(d:c<4):xm (gK 3 x y c) aA T p:=by
 rcases af2 h0 d with rfl|rfl|rfl|rfl
 ·exact KW h b (D:=[]) (by decide) λa=>by kernel_rfl
 ·exact KW h b (D:=[88]) (by decide) λa=>by kernel_rfl
 ·exact KW h b (D:=[88,89]) (by decide) λa=>by kernel_rfl
 ·exact KW h b (D:=[88,89]) (by decide) λa=>by kernel_rfl
theorem UZ{σ:List Ξ}(h:cN σ)(L:List Int):fW 8 [.list<|zs L,.bool false] σ=.ok (ei L) ⟨[],σ⟩:=by have d:=ba (.zs L)<|ba (.bool false) cX;rw[ab6];exact ae3 h (kZ<|b1 (h:=[]) (by kernel_rfl) nofun) d<|mY d
theorem U0{σ:List Ξ}(h:cN σ)(N:List Int):fW 1 [.list<|zs N] σ=.ok (pM N) ⟨[],σ⟩:=by have d:=ba (.zs N) cX;rw[ab3];exact ae3 h (kZ<|b1 (h:=[]) (by kernel_rfl) nofun) d<|mY d
def U4:ζ:=.list [.list<|zs [98],.list<|zs [97,97],.list<|zs [],.list<|zs [98,10]]
theorem EY(h:k7 T x y)(m:Kept aA){L N:List Int}(s:∀y∈L,y≠-1)(B:L.length<=100)(v:L≠[])(t:(g=0/\N=[])\/(g=3/\N.length<=2))(f:g*T.length<=600)
 (i:∀a,ic (.list<|zs [97,98]) .none (.int<|1+(n6 T y).fmod 2) a=.ok (.list<|zs L) a) (o:(T.length+1:Int)<40/\(∀a,yP U4 (.int c) a=.ok (.list<|zs N) a)\/¬((T.length+1:Int)<40)/\N=[]):xm (gK 0 x y c) aA T p:=by
 refine Θ λC=>?_
 have a1:=h.i
 have a2:=h.len
 obtain⟨K,bN,r,many,u,H⟩:=Uc s B v t (ck 0x100ef42405890100e927c058100e258380 [_,_] ι f a2) a1.1 a1.2.1 p
 refine C ⟨K,bN,r,.int many,aA,(ck 0x100e913b3c58392100e90392100e258380 [_,_,_,_] ι f u),afK many,m,λaF T0 l n b R z w=>?_⟩
 obtain⟨b',R',e,j⟩:=H aF T0 l n b R [.lst [.list<|aJ aA]] z ix w
 have d:=UZ (σ:=aY b R [.lst [.list<|aJ aA]]) (cN.dE ix) L
 have k:=U0 (σ:=aY b R [.lst [.list<|aJ aA]]) (cN.dE ix) N
 rcases o with⟨q,A⟩|⟨q,rfl⟩
 ·exact⟨b',R',b1 (h:=[.c<|fS (.ref 4) (cb R [.lst [.list<|aJ aA]]) w.cr,.v<|eD (a:=x)<|c0 T,.v<|eD (a:=y)<|lx T,.k,.T<|e2 q,.v A,.v (eD (a:=n6 T y) (b:=2)<|by decide),.v i,.c d,.c k,.c e]) (by kernel_rfl) nofun,j⟩
 ·exact⟨b',R',b1 (h:=[.c<|fS (.ref 4) (cb R [.lst [.list<|aJ aA]]) w.cr,.v<|eD (a:=x)<|c0 T,.v<|eD (a:=y)<|lx T,.k,.F<|f5 q,.k,.v (eD (a:=n6 T y) (b:=2)<|by decide),.v i,.c d,.c k,.c e]) (by kernel_rfl) nofun,j⟩
theorem T6(h:k7 T x y)(f:Kept aA)(h0:0<=c)(l:c<4):xm (gK 0 x y c) aA T p:=by
 refine Θ λk=>?_
 obtain⟨L,g,j,i,d⟩:∃L:List Int,(∀y∈L,y≠-1)/\L.length<=100/\L≠[]/\∀a,ic (.list<|zs [97,98]) .none (.int<|1+(n6 T y).fmod 2) a=.ok (.list<|zs L) a:=by
  have:=qk (a:=n6 T y) (b:=2) (by have:=h.j;exact(bP 0x106e00806e0118 [] [_] ι this.1)) (by decide);rcases ye 2 (λz=>z=0\/z=1) (by decide) this.1 this.2.1 with e|e
  ·exact⟨[97],by decide,by decide,by decide,λa=>by rw[e];kernel_rfl⟩
  ·exact⟨[97,98],by decide,by decide,by decide,λa=>by rw[e];kernel_rfl⟩
 by_cases q:(T.length+1:Int)<40
 ·rcases af2 h0 l with rfl|rfl|rfl|rfl
  ·exact k<|EY h f g j i (N:=[98]) (.inr ⟨rfl,by decide⟩) (aV 0x100e25838c031827e31828289118b0 [_] ι q) d<|.inl ⟨q,λa=>by kernel_rfl⟩
  ·exact k<|EY h f g j i (N:=[97,97]) (.inr ⟨rfl,by decide⟩) (aV 0x100e25838c031827e31828289118b0 [_] ι q) d<|.inl ⟨q,λa=>by kernel_rfl⟩
  ·exact k<|EY h f g j i (N:=[]) (.inr ⟨rfl,by decide⟩) (aV 0x100e25838c031827e31828289118b0 [_] ι q) d<|.inl ⟨q,λa=>by kernel_rfl⟩
  ·exact k<|EY h f g j i (N:=[98,10]) (.inr ⟨rfl,by decide⟩) (aV 0x100e25838c031827e31828289118b0 [_] ι q) d<|.inl ⟨q,λa=>by kernel_rfl⟩
 ·exact k<|EY h f g j i (.inl ⟨rfl,rfl⟩) (eB 0x100e25838c008 [_] ι) d<|.inr ⟨q,rfl⟩
theorem PC{w:Int}(d:0<=w)(e:w<6)(h:k7 T x y)(b:Kept aA)(h0:0<=c)(f:c<4):xm (gK w x y c) aA T p:=by
 rcases G2 d e with rfl|rfl|rfl|rfl|rfl|rfl
 ·exact T6 h b h0 f
 ·exact dC h b
 ·exact d5 h b
 ·exact Pu h b h0 f
 ·exact xS h b
 ·exact adq h b
end
def fV(k:Nat)(b:cG):List Ξ:=[.obj 7 [some<|.int 1,some<|.str 15,some<|.ref<|k+1,some<|.ref<|k+3,some<|.int b.pt,some<|.int 1,some<|.int b.fJ,some .none,some<|.bool true,some<|.bool false,some<|.int b.tk,some<|.int b.xQ,some<|.int 1,some<|.list [],some .none,some .none,some .none,some .none,some .none,some .none],.obj 4 [some<|.int 8,some<|.ref<|k+2,some<|.int b.b9,some<|.int b.ge],.lst<|zs b.cells,.obj 5 [some .dJ]]
noncomputable def jd:cG:=⟨List.replicate 8 0,0,8,1,1,1,1⟩
theorem U2(m:Ξ):fW 7 [.int 1,.str 15] [m]=.ok (.ref 1) ⟨[],m::fV 1 jd⟩:=by kernel_rfl
theorem U3(m:Ξ)(b:cG)(R:List ζ):fW 7 [.int 1,.str 15] (m::cu 1 b R)=.ok (.ref 8) ⟨[],m::(cu 1 b R++fV 8 jd)⟩:=by kernel_rfl
theorem R2(m:Ξ)(b:cG):fW 11 [] (m::fV 1 b)=.ok (.ref 5) ⟨[],m::(fV 1 b++[.obj 11 [some<|.ref 6],.obj 9 [some<|.ref 7,some<|.int 0,some<|.bool true,some .none,some .none],.lst []])⟩:=by kernel_rfl
theorem R3(m:Ξ)(b b':cG)(R:List ζ):fW 11 [] (m::(cu 1 b R++fV 8 b'))=.ok (.ref 12) ⟨[],m::(cu 1 b R++(fV 8 b'++[.obj 11 [some<|.ref 13],.obj 9 [some<|.ref 14,some<|.int 0,some<|.bool true,some .none,some .none],.lst []]))⟩:=by kernel_rfl
section
variable {p:Int}{D:List Int}
theorem KQ:gN jd [] 1:=⟨⟨[],List.replicate 8 0,[],⟨rfl,rfl,rfl,by decide⟩,rfl⟩,by decide,rfl,rfl,by decide⟩
theorem C5(j:D≠[])(d:D.length<=100):t4 (λb p=>av 3 (some<|.bool false) 0 pY.d [.ref 0,.list<|zs D] (fV 0 jd)=.ok .none ⟨[],fV 0 b⟩) (λb p=>gN b D p) λb p=>1<b.tk:=by refine Θ λl=>?_;have hz:D.length<=sizeLine:=bb<|aV 0x100e80001068000e64280 [_] ι d;obtain⟨pre,gap,post,g,e⟩:=KQ.gap;obtain⟨M,G,b9,m,c,k⟩:=yi (u:=.none) (t:=[]) (A:=[]) g e (n:=0) rfl (by show 0+D.length<=4194304;exact(aV 0x100e40000068900800e64280 [_] ι d));have f:=π (ps:=[.ref 0,.int 1,.list<|zs D]) (σ:=aQ .none jd []) (σ':=aQ .none ⟨M,b9,G,1,1+D.length,1,1⟩ []) (p:=.none) pe [.k,.c k,.v<|lenZ hz,.k];have i:=π (ps:=[.ref 0,.int 1,.list<|zs D,.bool false,.bool true]) (σ:=aQ .none jd []) (σ':=aQ .none ⟨M,b9,G,1+D.length,1+D.length,2,2⟩ []) (p:=.none) gf [.c<|dS .none jd [],.c (pl .none jd [] (x:=1) (y:=1) (by decide)<|by decide),.v<|lenZ hz,.F<|RZ j,.v<|lenZ hz,.c<|sQ .none [] KQ (n:=D.length) (by rw[length_nil];exact(aV 0x106e400000689b0b0800e64280 [_] ι d)),.c<|kV .none jd [] (.int 1)<|.int 1,.c f,.k,.v<|lenZ hz,.v<|lenZ hz,.c<|n2 .none ⟨M,b9,G,1+D.length,1+D.length,1,1⟩ [] (.int 1) (.int<|1+D.length)<|.bool false,.v<|lenZ hz,.c<|sP .none ⟨M,b9,G,1+D.length,1+D.length,1,1⟩ [] (.int 1) (.int D.length)<|.bool false,.v<|lenZ hz,.c<|jg .none ⟨M,b9,G,1+D.length,1+D.length,1,1⟩ [] (.int 1) (.int<|1+D.length)<|.int 0];refine l ?_;exact⟨⟨M,b9,G,1+D.length,1+D.length,2,2⟩,1+D.length,b1 (h:=[.c i]) (by kernel_rfl) nofun,⟨⟨_,_,_,⟨c.cells,c.b9,c.ge,c.c5⟩,append_nil _⟩,by show D.length<=_;exact(aV 0x100e40000068000e64280 [_] ι d),Int.add_comm 1 _,rfl,show(0:Int)<2 by decide⟩,show(1:Int)<2 by decide⟩
theorem WJ{P:Nat->Prop}(h0:P 0)(c:P 1)(d:P 2)(b:P 3):∀j,j<4->P j
 |0,_=>h0
 |1,_=>c
 |2,_=>d
 |3,_=>b
 |n+4,h=>absurd h (fF<|le_add_left 4 n)
theorem BJ(d:∀j,j<4->J[j]?=some (k+j)):∀j,j<4->∃m m',(fV 0 b)[j]?=some m/\(fV k b)[j]?=some m'/\hx J m m':=by
 have c:∀j,j<4->h8 J (some<|.ref j) (some<|.ref<|k+j):=λj h=>.some<|.ref<|d j h;refine WJ ⟨_,_,rfl,rfl,.obj ?_⟩ ⟨_,_,rfl,rfl,.obj ?_⟩ ⟨_,_,rfl,rfl,.data<|fp _⟩ ⟨_,_,rfl,rfl,.obj<|.cons (dY .dJ) .nil⟩
 ·exact .cons (dY<|.int _)<|.cons (dY<|.str _)<|.cons (c 1<|by decide)<|.cons (c 3<|by decide)<|.cons (dY<|.int _)<|.cons (dY<|.int _)<|.cons (dY<|.int _)<|.cons (dY .none)<|.cons (dY<|.bool _)<|.cons (dY<|.bool _)<|.cons (dY<|.int _)<|.cons (dY<|.int _)<|.cons (dY<|.int _)<|.cons (dY<|.list cX)<|.cons (dY .none)<|.cons (dY .none)<|.cons (dY .none)<|.cons (dY .none)<|.cons (dY .none)<|.cons (dY .none) .nil
 ·exact .cons (dY<|.int _)<|.cons (c 2<|by decide)<|.cons (dY<|.int _)<|.cons (dY<|.int _) .nil
noncomputable def UM(k:Nat):List Nat:=[k,k+1,k+2,k+3]
theorem xe:∀j,j<4->(UM k)[j]?=some (k+j):=WJ rfl rfl rfl rfl
theorem FZ{j i:Nat}(h:(UM k)[j]?=some i):j<4/\i=k+j:=by have b:j<4:=(b8 h).1;exact⟨b,Φ<|h.symm.trans<|xe j b⟩
theorem BI(c:pre.length=k)(j:Nat)(h:j<4):(pre++fV k b)[k+j]?=(fV k b)[j]?:=by subst c;rw[List.getElem?_append_right<|le_add_right _ _,Nat.add_sub_cancel_left]
theorem pw(f:pre.length=k)(h0:cN<|pre++fV k b)(h:av 3 (some<|.bool false) 0 pY.d [.ref 0,.list<|zs D] (fV 0 b)=.ok .none ⟨[],fV 0 b'⟩):Λ "insert" [.ref k,.list<|zs D] (pre++fV k b)=.ok .none ⟨[],pre++fV k b'⟩:=by
 rw[HU];have l:(UM k).Nodup:=by rw[show UM k=(List.range 4).map (k+·)from rfl];exact Pairwise.map _ (λa b h=>λq=>h<|Nat.add_left_cancel q) nodup_range
 refine jR<|.ok ?_ ⟨rfl,l,λj i e=>?_,λi c g e q=>by cases q;exact h0 _ (List.mem_of_getElem? e) g rfl⟩ h (.old<|.data .none) ⟨by rw[Δ,Δ];rfl,λi q=>?_,λj i e=>?_⟩
 ·exact y0 (ba (.zs D) cX) rfl
 ·obtain⟨d,rfl⟩:=FZ e;rw[BI f j d];exact BJ xe j d
 ·have q:∀j,j<4->i≠k+j:=λj d e=>q<|e▸List.mem_of_getElem? (xe j d);subst f;by_cases z:i<pre.length
  ·rw[List.getElem?_append_left z,List.getElem?_append_left z]
  ·obtain⟨j,rfl⟩:=Nat.le.dest<|Nat.le_of_not_lt z;have d:=Nat.le_of_not_lt λz=>q j z rfl;rw[List.getElem?_append_right<|le_add_right _ _,List.getElem?_append_right<|le_add_right _ _,Nat.add_sub_cancel_left,List.getElem?_eq_none<|show(fV pre.length b).length<=j from d,List.getElem?_eq_none<|d]
 ·obtain⟨d,rfl⟩:=FZ e;rw[BI f j d];exact BJ xe j d
end
theorem IB{D:List Int}(e:D≠[])(i:D.length<=100):Hw (λb p=>gN b D p) (λb p=>1<b.tk) (λb p=>(∀xs:List ζ,Λ "_law_buffer" [.list<|zs D] [.lst xs]=.ok (.ref 1) ⟨[],.lst xs::cu 1 b []⟩)) (λb p=>∀(xs:List ζ) b' R,cN (cu 1 b' R)->Λ "_law_buffer" [.list<|zs D] (.lst xs::cu 1 b' R)=.ok (.ref 8) ⟨[],.lst xs::(cu 1 b' R++cu 8 b [])⟩):=by
 refine Θ λj=>?_;obtain⟨b,p,h,c,f⟩:=C5 e i;have d:∀k,cN<|fV k jd:=λk=>.obj<|.obj<|.lst<|.obj .nil;refine j ⟨b,p,c,f,λxs=>?_,λxs b' R h0=>?_⟩
 ·exact π oo [.c<|U2<|.lst xs,.c<|pw (pre:=[.lst xs]) (k:=1) rfl (.lst<|d 1) h,.c<|R2 (.lst xs) b]
 ·have g:cN<|(Ξ.lst xs::cu 1 b' R)++fV 8 jd:=λm q=>(List.mem_append.mp q).elim ((cN.lst h0) m)<|d 8 m;exact π oo [.c<|U3 (.lst xs) b' R,.c<|pw (k:=8) rfl g h,.c<|R3 (.lst xs) b' b R]
theorem PK(xs:List Int)(e:∀x∈xs,0<=x){m:Int}(d:0<m)(j:xs.length<=1000):Hx (λ(v:Int) (ys:List Int)=>0<=v) (λ(v:Int) (ys:List Int)=>v<m) (λ(v:Int) (ys:List Int)=>(∀x∈ys,0<=x)) (λ(v:Int) (ys:List Int)=>ys.length<=xs.length) (λ(v:Int) (ys:List Int)=>∀t,Λ "_law_draw" [.ref 0,.int m] (.lst (zs xs)::t)=.ok (.int v) ⟨[],.lst (zs ys)::t⟩):=by
 refine Θ λg=>?_
 cases xs with
 |nil=>exact g ⟨0,[],Int.le_refl _,d,e,Nat.le_refl _,λt=>π q6 [.k,.k]⟩
 |cons x xs=>
  have f:=qk (e x<|.head _) d;refine g ⟨x.fmod m,xs,f.1,f.2.1,λz q=>e z<|.tail _ q,le_succ _,λt=>?_⟩;have h:∀a:aD,a.σ[0]?=some (.lst<|zs<|x::xs)->iy (.ref 0) (.list []) a=.ok (.bool true) a:=λa c=>by show Res.of ((((((a.σ[0]?).bind dv).bind λys=>(some ([]:List ζ)).bind λzs=>mV (gY 4) ys zs)).or _).bind λb=>some (ζ.bool<|!b,a))=_;rw[c];rfl
  have i:∀a:aD,a.σ[0]?=some (.lst<|zs<|x::xs)->Res.of (((a.σ[0]?).bind dv).bind λys=>C3 a 0 ys<|.int 0)=.ok (.int x) ⟨a.ρ,a.σ.set 0<|.lst<|zs xs⟩:=λa c=>by rw[c];show Res.of (if(0:Int)=0 then if(zs<|x::xs).length<=sizeLine then some (ζ.int x,(⟨a.ρ,a.σ.set 0<|.lst<|zs xs⟩:aD))else none else none)=_;rw[if_pos rfl];exact Res.d4 (by rw[aZ];exact bb<|aV 0x100e80001068000e3e8380 [_] ι j)
  exact π q6 [.w 0 h,.k,.u 0 i,.v<|eD (a:=x) d]
theorem A9{cs:List<|Option Nat}(h:iC a=.ok xs a1)(c:xs.length<=sizeLine)(b:ec f d xs ⟨cs.map<|H6 a1.ρ,a1.σ⟩=.ok ps a2):ou cs f d iC a=.ok ps ⟨a1.ρ,a2.σ⟩:=by unfold ou;rw[h];show(if xs.length<=sizeLine then _ else _)=_;rw[if_pos c,b];rfl
theorem vy{x:ζ}(b:f x a.ρ=some ρ)(c:d ⟨ρ,a.σ⟩=.ok p a1)(e:ec f d xs a1=.ok ps a2):ec f d (x::xs) a=.ok (p::ps) a2:=by unfold ec;rw[b];show(ee<|d ⟨ρ,a.σ⟩).bind _=_;rw[c];show(ec f d xs a1).bind _=_;rw[e];rfl
noncomputable def Cj(x:Int):Int:=if x<0 then-x else x
theorem Mp(x:Int):0<=Cj x:=rp (0<=·) (λh=>Int.neg_nonneg_of_nonpos<|Int.le_of_lt h) Int.not_lt.mp
theorem Pt{ns:List Int}(c:ns.length<=63)(a:aD):ic (.arg<|zs ns) .none (.int 60) a=.ok (.list<|zs<|ns.take 60) a:=by
 have h:fx (zs ns) none (some 60)=zs (ns.take 60):=by
  show((zs ns).drop 0).take (clipAt (zs ns).length 60-0)=_;rw[drop_zero,Nat.sub_zero,aZ]
  have b:clipAt ns.length 60=min 60 ns.length:=by
   rcases Nat.le_total 60 ns.length with q|q
   ·rw[Nat.min_eq_left q];exact gV q
   ·rw[Nat.min_eq_right q];unfold clipAt;rw[if_neg (by decide),show min (60:Int) ns.length=ns.length from Int.min_eq_right<|ofNat_le.mpr q,Int.max_eq_right<|natCast_nonneg _,toNat_natCast]
  rw[b];unfold zs;rw[map_take,show ns.length=(List.map ζ.int ns).length from(length_map ..).symm,←take_take];rw[take_length]
 show Res.of (if(zs ns).length<=sizeLine then some (ζ.list<|fx (zs ns) none<|some 60,a)else none)=_;rw[h];exact Res.d4 (by rw[aZ];exact bb<|aV 0x100e80001068000e3f280 [_] ι c)
theorem Ia:∀(L:List Int) (σ:List Ξ) (q:Option ζ),∃b,ec (bh 0) p0.d (zs L) ⟨[q],σ⟩=.ok (zs<|L.map Cj) ⟨[b],σ⟩:=by
 intro d
 induction d with
 |nil=>exactλσ q=>⟨q,rfl⟩
 |cons x L c=>intro σ q;obtain⟨b,e⟩:=c σ<|some<|.int x;refine⟨b,?_⟩;have f:p0.d ⟨[some<|.int x],σ⟩=.ok (.int<|Cj x) ⟨[some<|.int x],σ⟩:=aa.run [];exact vy (ρ:=[some<|.int x]) rfl f e
noncomputable def six:ζ:=.list [.int 97,.int 98,.int 10,.int 32,.int 98,.int 9]
theorem SR{v:Int}(h0:0<=v)(b:v<6):∃x:Int,∀a,yP six (.int v) a=.ok (.int x) a:=by
 rcases G2 h0 b with rfl|rfl|rfl|rfl|rfl|rfl
 ·exact⟨97,λa=>by kernel_rfl⟩
 ·exact⟨98,λa=>by kernel_rfl⟩
 ·exact⟨10,λa=>by kernel_rfl⟩
 ·exact⟨32,λa=>by kernel_rfl⟩
 ·exact⟨98,λa=>by kernel_rfl⟩
 ·exact⟨9,λa=>by kernel_rfl⟩
structure mu(d:List Int):Prop where
 nn:∀x∈d,0<=x
 c5:d.length<=60
inductive VF(d:List Int)(m:Int):Prop
 |mk (v:Int) (dw:List Int):0<=v->v<m->mu dw->(∀t,Λ "_law_draw" [.ref 0,.int m] (.lst (zs d)::t)=.ok (.int v) ⟨[],.lst (zs dw)::t⟩)->VF d m
theorem mu.draw{d:List Int}(h:mu d){m:Int}(g:0<m):VF d m:=by obtain⟨v,f,i,j,b,c,e⟩:=PK d h.nn g (Nat.le_trans h.c5<|by decide);exact⟨v,f,i,j,⟨b,Nat.le_trans c h.c5⟩,e⟩
theorem EW:∀(k:Nat) (i:Int) (d:List Int),mu d->t4 (λD b=>D.length=k) (λD b=>mu b) (λD b=>∀q t,∃c,ec (bh 0) p1.d (bI i 1 k) ⟨[q,some<|.ref 0],.lst (zs d)::t⟩=.ok (zs D) ⟨[c,some<|.ref 0],.lst (zs b)::t⟩):=by
 intro o
 induction o with
 |zero=>exactλi d h=>⟨[],d,rfl,h,λq t=>⟨q,rfl⟩⟩
 |succ k f=>intro i d h;obtain⟨v,dC,s,u,j,p⟩:=h.draw (m:=6) (by decide);obtain⟨x,r⟩:=SR s u;obtain⟨D,b,l,n,H⟩:=f (i+1) dC j;refine⟨x::D,b,congrArg (·+1) l,n,λq t=>?_⟩;obtain⟨c,e⟩:=H (some<|.int i) t;refine⟨c,?_⟩;have g:p1.d ⟨[some<|.int i,some<|.ref 0],.lst (zs d)::t⟩=.ok (.int x) ⟨[some<|.int i,some<|.ref 0],.lst (zs dC)::t⟩:=aa.run [.c<|p t,.v r];rw[b0];exact vy (ρ:=[some<|.int i,some<|.ref 0]) rfl g e
def kD(d:List Int)(dR:cG)(dX:List ζ)(di:cG)(dn:List ζ)(fZ hP ek:List ζ):List Ξ:=.lst (zs d)::(cu 1 dR dX++(cu 8 di dn++[.lst fZ,.lst hP,.lst ek]))
theorem ui{t:List Ξ}(h:cN t):cN<|cu k b R++t:=.obj<|.obj<|.lst<|.obj<|.obj<|.obj<|.lst h
theorem th(d:List Int)(dR:cG)(dX:List ζ)(di:cG)(dn:List ζ)(fZ hP ek:List ζ):cN<|kD d dR dX di dn fZ hP ek:=.lst<|ui<|ui<|.lst<|.lst<|.lst .nil
section
variable (d:List Int)(dR di:cG){dX:List ζ}(dn fZ hP ek:List ζ)
theorem Tv(h:oV dX)(b:dX.length<=sizeLine):bw 9 "is_at_boundary" [.ref 6] (kD d dR dX di dn fZ hP ek)=.ok (.bool true) ⟨[],kD d dR dX di dn fZ hP ek⟩:=by
 cases h with
 |nil=>exact π cZ [.k,.k]
 |snoc X=>exact π cZ [.w 7<|jn b rfl,.F<|hN (x:=(X++[gU]).length) (y:=0) (by rw[Δ];exact nofun),.w 7<|g6 b,.k]
theorem Tw{X:List ζ}{r:ζ}(h:iH r)(b:(X++[r]).length<=sizeLine):bw 9 "is_at_boundary" [.ref 6] (kD d dR (X++[r]) di dn fZ hP ek)=.ok (.bool false) ⟨[],kD d dR (X++[r]) di dn fZ hP ek⟩:=by
 cases h with
 |ins s e=>exact π cZ [.w 7<|jn b rfl,.F<|hN (x:=(X++[eR s e]).length) (y:=0) (by rw[Δ];exact nofun),.w 7<|g6 b,.k]
 |del s D q=>exact π cZ [.w 7<|jn b rfl,.F<|hN (x:=(X++[ke s D q]).length) (y:=0) (by rw[Δ];exact nofun),.w 7<|g6 b,.k]
theorem Oa{R':List ζ}(h:xl dX R')(b:dX.length<=sizeLine):bw 9 "boundary" [.ref 6] (kD d dR dX di dn fZ hP ek)=.ok .none ⟨[],kD d dR R' di dn fZ hP ek⟩:=by
 rcases h with⟨h,rfl⟩|⟨X,r,h,rfl,rfl⟩
 ·exact π jC [.c<|Tv d dR di dn fZ hP ek h b,.k]
 ·exact π jC [.c<|Tw d dR di dn fZ hP ek h b,.k,.u 7<|iL (v:=gU) b]
theorem eqZ(L:List Int)(a:aD):oEq (.list<|zs L) (.list<|zs L) a=.ok (.bool true) a:=by show Res.of ((((mV (gY 4) (zs L)<|zs L).or<|gY 5 (.list<|zs L)<|.list<|zs L)).bind λb=>some (ζ.bool b,a))=_;rw[ya,beq_self_eq_true];rfl
theorem MK{i:Nat}{X:List ζ}{x:ζ}(d:(X++[x]).length<=sizeLine)(a:aD)(c:a.σ[i]?=some (.lst<|X++[x])):ic (.ref i) .none (.int<|-1) a=.ok (.list X) a:=by
 have h:fx (X++[x]) none (some<|-1)=X:=by
  show((X++[x]).drop 0).take (clipAt (X++[x]).length (-1)-0)=_;have b:clipAt (X++[x]).length (-1)=X.length:=by rw[Δ,length_singleton];unfold clipAt;rw[if_pos (by decide),show(-1+((X.length+1:Nat):Int))=X.length from(eB 0x108eb09b91180a11808 [_] ι),Int.min_eq_left<|ofNat_le.mpr<|le_succ _,Int.max_eq_right<|natCast_nonneg _,toNat_natCast]
  rw[b,drop_zero,Nat.sub_zero,take_left]
 show Res.of (Option.bind ((a.σ[i]?).bind dv) _)=_;rw[c];show Res.of (if(X++[x]).length<=sizeLine then some (ζ.list<|fx (X++[x]) none<|some<|-1,a)else none)=_;rw[h];exact Res.d4 d
theorem ML{i:Nat}{X:List ζ}{x:ζ}(d:(x::X).length<=sizeLine)(a:aD)(c:a.σ[i]?=some (.lst<|x::X)):ic (.ref i) (.int 1) .none a=.ok (.list X) a:=by
 have h:fx (x::X) (some 1) none=X:=by
  show((x::X).drop<|clipAt (x::X).length 1).take ((x::X).length-clipAt (x::X).length 1)=_;have b:clipAt (x::X).length 1=1:=by exact gV<|succ_le_succ<|zero_le _
  rw[b];exact take_length
 show Res.of (Option.bind ((a.σ[i]?).bind dv) _)=_;rw[c];show Res.of (if(x::X).length<=sizeLine then some (ζ.list<|fx (x::X) (some 1) none,a)else none)=_;rw[h];exact Res.d4 d
theorem YV{X:List ζ}(b:X.length<=sizeLine)(a:aD):DQ (.list X) a=.ok (.list X.reverse) a:=Res.d4 b
end
theorem Og(us:List<|List Int):(aJ us).reverse=aJ us.reverse:=(List.map_reverse ..).symm
theorem B0:∀(us:List<|List Int) (T:List Int) (vs:List<|List Int),ka (λb ws=>turn T us vs=(b,ws++vs)) λb ws=>(T::us).reverse=b::ws:=by
 intro d
 induction d with
 |nil=>exactλT vs=>⟨T,[],rfl,rfl⟩
 |cons u us c=>
  intro T vs;obtain⟨b,ws,e,f⟩:=c u<|T::vs;refine⟨b,ws++[T],?_,?_⟩
  ·show turn u us (T::vs)=_;rw[e,bp];rfl
  ·rw[reverse_cons,f];rfl
def hA(us:List<|List Int)(T:List Int):List ζ:=aJ us.reverse++[.list<|zs T]
theorem Ti(us:List<|List Int)(T bN:List Int):hA (T::us) bN=hA us T++[.list<|zs bN]:=by unfold hA;rw[reverse_cons,hp];rfl
def dM(aA:List<|List Int):List ζ:=[.list<|aJ aA]
theorem qp(aA:List<|List Int):∀r∈dM aA,aN r:=ba (.list<|jA aA) cX
inductive Xw(b:cG)(R:List ζ)(T:List Int)(p:Int)(j:Nat):Prop
 |mk (aF T0 l n:_):W aF T0 l n b R T p->n+T.length<=100+j*80710->Xw b R T p j
structure Inv(D:List Int)(j:Nat)(d:List Int)(dR:cG)(dX:List ζ)(di:cG)(dn:List ζ)(us:List<|List Int)(T:List Int)(p:Int)(aA:List<|List Int):Prop where
 XS:mu d
 aj:∃n,Eo us n dR dX T p/\n+T.length<=100+j*80710
 υ:Xw di dn T p j
 kept:Kept aA
 c5:us.length<=j
 first:∃ws,(T::us).reverse=D::ws
section
variable {D d:List Int}{dR di bj bX:cG}{dX dn hJ fe fZ hP ek:List ζ}{bN:List Int}{l:Nat}{p:Int}{eJ:List<|List Int}
theorem y2(w:W aF T0 l n dR dX T p)(di:cG)(dn fZ hP ek:List ζ)(d:List Int):Λ "_law_text" [.ref 1] (kD d dR dX di dn fZ hP ek)=.ok (.list<|zs T) ⟨[],kD d dR dX di dn fZ hP ek⟩:=w_text (pre:=[Ξ.lst<|zs d]) w rfl<|th d dR dX di dn fZ hP ek
theorem Jv(w:W aF T0 l n di dn T p)(dR:cG)(dX fZ hP ek:List ζ)(d:List Int):Λ "_law_text" [.ref 8] (kD d dR dX di dn fZ hP ek)=.ok (.list<|zs T) ⟨[],kD d dR dX di dn fZ hP ek⟩:=w_text (pre:=Ξ.lst (zs d)::cu 1 dR dX) w rfl<|th d dR dX di dn fZ hP ek
theorem Jt{b q:ζ}(e:aN b)(f:∀r∈dX,aN r)(g:∀r∈hJ,aN r)(h:K1 [.ref 0,b,.ref 7] (aY dR dX [.lst<|dM aA])=.ok q ⟨[],aY bj hJ [.lst<|dM eJ]⟩)(c:aN q)(di:cG)(dn fZ ek:List ζ)(d:List Int):Λ "_law_done" [.ref 1,b,.ref 16] (kD d dR dX di dn fZ (dM aA) ek)=.ok q ⟨[],kD d bj hJ di dn fZ (dM eJ) ek⟩:=(congrFun (congrFun q5 _) _).trans<|y1 (pre:=[Ξ.lst<|zs d]) (t1:=cu 8 di dn++[Ξ.lst fZ]) e f g (qp aA) (qp eJ) (th d dR dX di dn fZ (dM aA) ek) rfl rfl h c
theorem Ju{b q:ζ}(e:aN b)(f:∀r∈dn,aN r)(g:∀r∈fe,aN r)(h:K1 [.ref 0,b,.ref 7] (aY di dn [.lst<|dM aA])=.ok q ⟨[],aY bX fe [.lst<|dM eJ]⟩)(c:aN q)(dR:cG)(dX fZ hP:List ζ)(d:List Int):Λ "_law_done" [.ref 8,b,.ref 17] (kD d dR dX di dn fZ hP<|dM aA)=.ok q ⟨[],kD d dR dX bX fe fZ hP<|dM eJ⟩:=(congrFun (congrFun q5 _) _).trans<|y1 (pre:=Ξ.lst (zs d)::cu 1 dR dX) (t1:=[Ξ.lst fZ,Ξ.lst hP]) e f g (qp aA) (qp eJ) (th d dR dX di dn fZ hP<|dM aA) rfl rfl h c
theorem pK{us:List<|List Int}(h:Eo us n dR dX T p)(b:n+n<=3999990)(di:cG)(dn fZ hP ek:List ζ)(d:List Int):OQ (λb' R'=>Λ "_law_passed" [.ref 1,.list<|aJ us] (kD d dR dX di dn fZ hP ek)=.ok (.bool true) ⟨[],kD d b' R' di dn fZ hP ek⟩) (turn T us []).2 (n+n+2) (turn T us []).1:=Sw (pre:=[Ξ.lst<|zs d]) h b rfl<|th d dR dX di dn fZ hP ek
end
def fr(x:ζ)(D:List Int)(e b c d:Option ζ):List<|Option ζ:=[some x,some<|.ref 0,e,some<|.list<|zs D,some<|.ref 1,some<|.ref 8,some<|.ref 15,some<|.ref 16,some<|.ref 17,b,c,d]
def F7(dR:cG)(dX:List ζ)(di:cG)(dn fZ hP ek:List ζ):List Ξ:=cu 1 dR dX++(cu 8 di dn++[.lst fZ,.lst hP,.lst ek])
theorem vY(w x y c:Int):aN<|gK w x y c:=.tup<|fp [w,x,y,c]
theorem tv(T:List Int):(!(T==T))=false:=by rw[beq_self_eq_true];rfl
inductive OI(D:List Int)(j:Nat)(X:ζ->ζ->List Ξ->Prop):Prop
 |mk (d dR dX di dn us T p aA gm q:_):Inv D j d dR dX di dn us T p aA->X gm q (kD d dR dX di dn (hA us T) (dM aA) (dM aA))->OI D j X
inductive OK(D:List Int)(x:ζ)(fL:Option ζ)(F:Res aS)(σ:List Ξ):Prop
 |mk (j0 eo f9:_):F=.ok .next ⟨fr x D j0 eo f9 fL,σ⟩->OK D x fL F σ
inductive OJ(D:List Int)(j:Nat)(X:List Ξ->Prop):Prop
 |mk (d dR dX di dn us T p aA:_):Inv D j d dR dX di dn us T p aA->X (kD d dR dX di dn (hA us T) (dM aA) (dM aA))->OJ D j X
theorem abT{D d:List Int}{j:Nat}{dR di:cG}{dX dn:List ζ}{p:Int}(I:Inv D j d dR dX di dn us T p aA)(cB:j<6):
 OI D (j+1) λgm q σ=>∀x J X Y F,p2.d ⟨fr x D J X Y F,kD d dR dX di dn (hA us T) (dM aA)<|dM aA⟩=.ok .next ⟨fr x D J (some gm) (some q) F,σ⟩:=by
 refine Θ λφ=>?_
 obtain⟨n,aj,k⟩:=I.aj
 obtain⟨ZV,ZX,l,m,υ,hm⟩:=I.υ
 have afv:=succ_mul j 80710
 have f:j*80710<=5*80710:=mul_le_mul_right _<|aV 0x100e518001e6180 [_] ι cB
 obtain⟨w,dC,Ob,nu,mL,E⟩:=I.XS.draw (m:=6) (by decide)
 obtain⟨x,d5,x0,lZ,rF,t⟩:=mL.draw (m:=40) (by decide)
 obtain⟨y,Pu,TC,oU,B6,A⟩:=rF.draw (m:=40) (by decide)
 obtain⟨c,xS,oL,ff,ZE,C⟩:=B6.draw (m:=4) (by decide)
 have E:=E<|F7 dR dX di dn (hA us T) (dM aA)<|dM aA
 have t:=t<|F7 dR dX di dn (hA us T) (dM aA)<|dM aA
 have A:=A<|F7 dR dX di dn (hA us T) (dM aA)<|dM aA
 have C:=C<|F7 dR dX di dn (hA us T) (dM aA)<|dM aA
 obtain⟨R',_,u,g,a3⟩:=yH [] aj<|ck 0x100e3d0900689118000ec13b4658518d13b4658200e9d13b465826428910 [_,_,_] ι k f
 obtain⟨_,_,_,Q⟩:=aj.w
 have i2:=Oa xS dR di dn (hA us T) (dM aA) (dM aA) a3<|ll Q.c5<|ck 0x100e3d090068000ec13b4658518d13b4658200e9d13b465826428910 [_,_,_] ι k f
 obtain⟨K,bN,V,q,eJ,B,o,oz,H⟩:=PC Ob nu ⟨x0,lZ,TC,oU,(ck 0x100e927c058100ec13b4658518d13b4658200e9d13b465826428910 [_,_,_] ι k f)⟩ I.kept oL ff
 obtain⟨bj,hJ,R,h⟩:=H R' T R'.length (n+1) dR R' (hB 0x100e3d090068939118000e913b3c58194300ec13b4658518d13b4658200e9d13b465826428910 [_,_,_,_,_] ι k f B) u
 obtain⟨bX,fe,S,P⟩:=H ZV ZX l m di dn (hB 0x100e3d09006893000e913b3c58194300ec13b4658518d13b4658200e9d13b465826428910 [_,_,_,_,_] ι hm f B) υ
 have M:=Jt (vY w x y c) u.rows h.rows R o.data di dn (hA us T) (dM aA) xS
 have N:=Ju (vY w x y c) υ.rows P.rows S o.data bj hJ (hA us T) (dM eJ) xS
 have e:=y2 h bX fe (hA us T) (dM eJ) (dM eJ) xS
 have sg:=Jv P bj hJ (hA us T) (dM eJ) (dM eJ) xS
 have Z:=I.c5
 have Ψ:(hA us T).length<=sizeLine:=by unfold hA;rw[Δ,a0,length_reverse,length_singleton];exact bb<|ck 0x120e13b4658800010689118120e13b46580100ec13b4658518d13b46580 [_,_] ι f Z
 have O:=g6 (i:=15) Ψ
 have P1:=ll h.c5<|hB 0x100e3d090068939118000e913b3c58194300ec13b4658518d13b4658200e9d13b465826428910 [_,_,_,_,_] ι k f B
 obtain⟨ws,vM⟩:=I.first
 have Xe:Xw bX fe bN V<|j+1:=⟨ZV,ZX,l,m+K,P,(ck 0x100e9d13b46589118264289493000e913b3c58194300e9d13b465826428910 [_,_,_,_,_] ι hm B)⟩
 have Fz:=(ck 0x100e9d13b465891182642894939118000e913b3c58194300e9d13b465826428910 [_,_,_,_,_] ι k B)
 obtain⟨G,L,dg⟩:=h.oI
 cases dg with
 |nil=>rw[append_nil]at L;subst L;refine φ ⟨xS,bj,hJ,bX,fe,us,T,V,eJ,gK w x y c,q,⟨ZE,⟨n+1+K,⟨hJ,T,_,h,.inl ⟨rfl,rfl,g⟩⟩,Fz⟩,Xe,oz,le_succ_of_le Z,⟨ws,vM⟩⟩,λs J X Y F=>?_⟩;exact aa.run [.c E,.c t,.c A,.c C,.c i2,.c M,.c N,.v o.ne,.k,.c sg,.c e,.v<|pP T T,.F<|tv T,.k,.c e,.w 15 O,.v<|pP T T,.F<|tv T,.c<|Tv xS bj bX fe (hA us T) (dM eJ) (dM eJ) g.bd P1,.k,.k]
 |@snoc G r _ gL _ dg a8=>
  rw[←bp]at L;subst L;have U:R'.length<(R'++G++[r]).length:=by simp only[Δ,length_singleton];exact(eB 0x101e91189100 [_,_] ι)
  have ap:=iL (i:=15) (v:=.list<|zs bN) Ψ;have g5:=Tw xS bj bX fe (hA us T) (dM eJ) (dM eJ) a8.row P1;refine φ ?_;refine⟨xS,bj,R'++G++[r],bX,fe,T::us,bN,V,eJ,gK w x y c,q,⟨ZE,⟨n+1+K,⟨R',T,_,h,.inr ⟨us,rfl,g,U⟩⟩,Fz⟩,Xe,oz,succ_le_succ Z,⟨ws++[bN],by rw[reverse_cons,vM];rfl⟩⟩,λs J X Y F=>?_⟩;rw[Ti];by_cases z:bN=T
  ·exact aa.run [.c E,.c t,.c A,.c C,.c i2,.c M,.c N,.v o.ne,.k,.c sg,.c e,.v<|pP bN bN,.F<|tv bN,.k,.c e,.w 15 O,.v<|pP bN T,.F (b:=!(bN==T)) (by rw[z];exact tv T),.c g5,.k,.k,.c e,.u 15 ap]
  ·exact aa.run [.c E,.c t,.c A,.c C,.c i2,.c M,.c N,.v o.ne,.k,.c sg,.c e,.v<|pP bN bN,.F<|tv bN,.k,.c e,.w 15 O,.v<|pP bN T,.T (b:=!(bN==T)) (by rw[beq_false_of_ne z];rfl),.k,.c e,.u 15 ap]
theorem Ys{D:List Int}:∀(k:Nat) (i:Int) (j:Nat) (d:List Int) (dR:cG) (dX:List ζ) (di:cG) (dn:List ζ) (us:List<|List Int) (T:List Int) (p:Int) (aA:List<|List Int),Inv D j d dR dX di dn us T p aA->j+k<=6->
 OJ D (j+k) λσ=>∀x g c f b,OK D x b (ae5 (cE (bh 2) p2.d) (bI i 1 k) ⟨fr x D g c f b,kD d dR dX di dn (hA us T) (dM aA)<|dM aA⟩) σ:=by
 intro K
 induction K with
 |zero=>exactλi j d dR dX di dn us T p aA I X=>⟨d,dR,dX,di,dn,us,T,p,aA,I,λx g c f b=>⟨g,c,f,rfl⟩⟩
 |succ k G=>intro i j d dR dX di dn us T p aA I h;obtain⟨dC,w,B,z,E,r,gL,J,l,L,q,n,O⟩:=abT I<|aV 0x101e618000e6189911810 [_,_] ι h;obtain⟨d5,y,C,A,F,s,u,M,m,o,H⟩:=G (i+1) (j+1) dC w B z E r gL J l n<|aV 0x100e618919118000e6189911810 [_,_] ι h;refine⟨d5,y,C,A,F,s,u,M,m,by rw[Nat.add_comm k,←Nat.add_assoc];exact o,λx g c f b=>?_⟩;obtain⟨t,N,v,e⟩:=H x (some<|.int i) (some L) (some q) b;rw[b0];exact⟨t,N,v,cD (O x (some<|.int i) c f b) e⟩
theorem GZ{dl:aI}{i:Nat}(h:dl a=.ok ps a1):nL false i dl a=.ok .next ⟨a1.ρ.set i<|some<|.list ps,a1.σ⟩:=by show(yg<|dl a).bind _=_;rw[h];rfl
theorem Ji{ns:List Int}(h:ns.length<=63):∃b,mu b/\wd ⟨[some<|.arg<|zs ns,none,none,none,none,none,none,none,none,none,none,none],[]⟩=.ok (zs b) ⟨[some<|.arg<|zs ns,none,none,none,none,none,none,none,none,none,none,none],[]⟩:=by
 have c:(ns.take 60).length<=60:=by rw[length_take];exact Nat.min_le_left _ _
 refine⟨(ns.take 60).map Cj,⟨λx q=>?_,by rw[length_map];exact c⟩,?_⟩
 ·obtain⟨y,_,rfl⟩:=List.mem_map.mp q;exact Mp y
 ·obtain⟨d,e⟩:=Ia (ns.take 60) [] none;exact A9 (cs:=[none]) (a1:=⟨[some<|.arg<|zs ns,none,none,none,none,none,none,none,none,none,none,none],[]⟩) (uE<|aa.run (m:=d2 ν (χ .none)<|χ<|.int 60) [.v<|Pt h]) (by rw[aZ];exact bb<|aV 0x100e80001068000e3c280 [_] ι c) e
theorem Jm{ns e:List Int}(h:mu e):Hw (λD d=>D≠[]) (λD d=>D.length<=16) (λD d=>mu d) λD d=>we ⟨[some<|.arg<|zs ns,some<|.ref 0,none,none,none,none,none,none,none,none,none,none],[.lst<|zs e]⟩=.ok (zs D) ⟨[some<|.arg<|zs ns,some<|.ref 0,none,none,none,none,none,none,none,none,none,none],[.lst<|zs d]⟩:=by refine Θ λo=>?_;obtain⟨v,dC,c,g,l,i⟩:=h.draw (m:=14) (by decide);obtain⟨D,d5,f,n,H⟩:=EW (3+v).toNat 0 dC l;obtain⟨p,k⟩:=H none [];refine o ?_;refine⟨D,d5,λq=>by rw[q]at f;exact absurd f (by rw[length_nil];exact(cP 0x125ebb83800818e90318b006e008 [_] [_] ι c<|toNat_of_nonneg<|bP 0x106e903180806e008 [] [_] ι c)),(fB 0x100e1028008e90318b102e1007ee180 [_,_] [_] ι g f<|toNat_of_nonneg<|bP 0x106e903180806e008 [] [_] ι c),n,?_⟩;have i:=i [];have j:gj (γ (ag (aeX .Add) (χ<|.int 3)<|Ω (Λ "_law_draw")<|γ ae<|γ (χ<|.int 14) ε) ε).d ⟨[some<|.arg<|zs ns,some<|.ref 0,none,none,none,none,none,none,none,none,none,none],[.lst<|zs e]⟩=.ok (bI 0 1 (3+v-0).toNat) ⟨[some<|.arg<|zs ns,some<|.ref 0,none,none,none,none,none,none,none,none,none,none],[.lst<|zs dC]⟩:=fD (aa.run (m:=γ (ag (aeX .Add) (χ<|.int 3)<|Ω (Λ "_law_draw")<|γ ae<|γ (χ<|.int 14) ε) ε) (b:=[.int<|3+v]) [.c i]) rfl rfl (by decide) (by decide) (bP 0x106e90318a3b9aca00880808e90318b0 [_] [_] ι<|toNat_of_nonneg<|bP 0x106e903180806e008 [] [_] ι c)<|bP 0x106e3b9aca00889031807ee180 [] [_] ι g;rw[Int.sub_zero]at j;exact A9 (cs:=[none,some 1]) j (by unfold bI;rw[length_map,length_range];exact bb<|cP 0x100e80001068008e90318b007ee180 [_] [_] ι g<|toNat_of_nonneg<|bP 0x106e903180806e008 [] [_] ι c) k
theorem Zz:Et:=by
 intro ns h;refine Θ λφ=>?_;obtain⟨It,ak,Γ⟩:=Ji h;obtain⟨D,d,cA,j,x,Y⟩:=Jm (ns:=ns) ak;obtain⟨b,p,c,cL,t,w⟩:=IB cA (Nat.le_trans j<|by decide);have t:=t<|zs d;have w:=w (zs d) b [] (by have:=ui (k:=1) (b:=b) (R:=[]) cN.nil;rw[append_nil]at this;exact this);have C:W [] D 0 0 b [] D p:=⟨c,cL,.nil,cX,⟨[],rfl,.nil D⟩,Nat.le_refl _,Nat.le_refl _⟩;have o:∀d,mu d->Inv D 0 d b [] b [] [] D p [[120]]:=λd x=>⟨x,⟨0,⟨[],D,0,C,.inl ⟨rfl,rfl,.nil .nil D⟩⟩,(aV 0x100e9c13b4658086428900800e10280 [_] ι j)⟩,⟨[],D,0,0,C,(aV 0x100e9c13b4658086428900800e10280 [_] ι j)⟩,⟨by decide,λu q=>by cases List.mem_singleton.mp q;decide⟩,Nat.le_refl _,⟨[],rfl⟩⟩;obtain⟨v,dC,z,A,mL,y⟩:=x.draw (m:=6) (by decide);have y:=y<|F7 b [] b [] (hA [] D) (dM [[120]])<|dM [[120]];obtain⟨d5,dR,dX,di,dn,us,T,hQ,aA,I,g⟩:=Ys (1+v).toNat 0 0 dC b [] b [] [] D p [[120]] (o dC mL)<|cP 0x100e618900808e90118b007e6180 [_] [_] ι A<|toNat_of_nonneg<|bP 0x106e901180806e008 [] [_] ι z;obtain⟨j0,eo,f9,g⟩:=g (.arg<|zs ns) none none none none;obtain⟨n,aj,f⟩:=I.aj;have L:=I.c5;have e:(0+(1+v).toNat)*80710<=6*80710:=mul_le_mul_right _<|cP 0x100e618900808e90118b007e6180 [_] [_] ι A<|toNat_of_nonneg<|bP 0x106e901180806e008 [] [_] ι z;obtain⟨ws,B⟩:=I.first;have E:hA us T=aJ us.reverse++[.list<|zs T]:=rfl;have F:hA us T=.list (zs D)::aJ ws:=by show _=aJ (D::ws);rw[←B,reverse_cons,hp];rfl
 have O:(hA us T).length<=sizeLine:=by rw[E,Δ,a0,length_reverse,length_singleton];exact bb<|ck 0x120e13b4658800010689118000ec13b4658618d13b4658910820e13b465891080 [_,_] ι L e
 have K:wc ⟨fr (.arg<|zs ns) D none none none none,kD d b [] b [] (hA [] D) (dM [[120]])<|dM [[120]]⟩=.ok (bI 0 1 (1+v-0).toNat) ⟨fr (.arg<|zs ns) D none none none none,kD dC b [] b [] (hA [] D) (dM [[120]])<|dM [[120]]⟩:=fD (aa.run (m:=γ (ag (aeX .Add) bK<|Ω (Λ "_law_draw")<|γ ae<|γ (χ<|.int 6) ε) ε) (b:=[.int<|1+v]) [.c y]) rfl rfl (by decide) (by decide) (bP 0x106e90118a3b9aca00880808e90118b0 [_] [_] ι<|toNat_of_nonneg<|bP 0x106e901180806e008 [] [_] ι z)<|bP 0x106e3b9aca00889011807e6180 [] [_] ι A;rw[Int.sub_zero]at K;have P:=ip K g;obtain⟨t1,Z,r,cp⟩:=B0 us T [];obtain⟨h2,aeH,M,N⟩:=B0 ws D [];rw[append_nil]at r M;obtain⟨rfl,rfl⟩:=List.cons.inj<|cp.symm.trans B;rw[←B,List.reverse_reverse]at N;obtain⟨rfl,rfl⟩:=List.cons.inj N;obtain⟨bj,hJ,tC,Q,G⟩:=pK aj (ck 0x100e3d08f66890020e218c13b4658618d13b4658920820e2189d13b465892086428910 [_,_,_] ι f e) di dn (hA us T) (dM aA) (dM aA) d5;rw[r]at G;obtain⟨bX,fe,n5,S,H⟩:=pK G (ck 0x100e3d08f66899218900921890020e418c13b4658618d13b4658920820e4189d13b465892086428910 [_,_,_] ι f e) di dn (hA us T) (dM aA) (dM aA) d5;rw[M]at H;have iv:=(ck 0x100e7640858000ec13b4658618d13b4658920800e9d13b465892086428910 [_,_,_] ι f e);obtain⟨mw,V,YL,ov,J⟩:=pK H (by clear f e;exact(aV 0x100e3d08f66899218992189009218900921899218900921890020e81876408580 [_] ι iv)) di dn (hA us T) (dM aA) (dM aA) d5;rw[r]at J;obtain⟨_,_,_,X⟩:=J.w;have l:=y2 X di dn (hA us T) (dM aA) (dM aA) d5;have ff:=λa (s:a.σ[15]?=some (.lst<|hA us T))=>MK (E▸O) a s;have lg:=λa (s:a.σ[15]?=some (.lst<|hA us T))=>ML (F▸O) a (s.trans<|by rw[F]);have U:∀a,DQ (.list<|aJ us.reverse) a=.ok (.list<|aJ us) a:=λa=>by have:=YV (by rw[a0,length_reverse];exact bb<|ck 0x120e13b465880001068000ec13b4658618d13b4658910820e13b465891080 [_,_] ι L e) a;rw[Og,List.reverse_reverse]at this;exact this
 exact φ ⟨_,π (ps:=[.arg<|zs ns]) (σ':=kD d5 mw V di dn (hA us T) (dM aA)<|dM aA) TZ [.l Γ,.s<|GZ (i:=3) Y,.c t,.c w,.s P,.w 15 ff,.v U,.c Q,.k,.w 15 lg,.c S,.k,.c ov,.k,.c l,.v<|eqZ t1]⟩
end PZ.Internal
end
theorem PySem.Challenge.cw_pq0323_01_holds : PySem.Challenge.rw_pq0323_01.Holds :=
 PQ.Internal.Oi (PZ.Internal.TL PZ.Internal.Zz)
