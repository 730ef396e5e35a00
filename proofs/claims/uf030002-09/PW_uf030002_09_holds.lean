import PyProof.Rows.All
import Wide.All
import OpenK.AllK
import OpenK.KMake
import OpenK.KDescr
import OpenK.KMore
import OpenK.KCall
import KE.KTryMore
import Wide.FinOn
import PySem.Challenge.RW_uf030002_09
set_option Elab.async false
set_option bootstrap.genMatcherCode false
set_option genSizeOf false
set_option genSizeOfSpec false
set_option linter.all false
section
namespace Mine.Internal.L
set_option genCtorIdx false
set_option genInjectivity false
noncomputable def d:List Int->(Nat->Int)->Int
 | [],_=>0
 | c::cs,r=>c*r 0+d cs fun i=>r (i+1)
noncomputable def add:List Int->List Int->List Int
 | [],b=>b
 | a,[]=>a
 | x::a,y::b=>(x+y)::add a b
noncomputable def mul (k:Int):List Int->List Int
 | []=>[]
 | x::a=>k*x::mul k a
noncomputable def unit:Nat->List Int
 | 0=>[1]
 | n+1=>0::unit n
theorem add4 (a b c e:Int):a+b+(c+e)=a+c+(b+e):=by rw [Int.add_assoc,Int.add_left_comm b,<-Int.add_assoc]
theorem d_add (a b:List Int) (r:Nat->Int):d (add a b) r=d a r+d b r:=by
 induction a generalizing b r with
 | nil=>exact (Int.zero_add _).symm
 | cons x a ih=>
  cases b with
  | nil=>exact (Int.add_zero _).symm
  | cons y b=>show (x+y)*r 0+d (add a b) _=_+_;rw [ih,Int.add_mul];exact add4 ..
theorem d_mul (k:Int) (a:List Int) (r:Nat->Int):d (mul k a) r=k*d a r:=by
 induction a generalizing r with
 | nil=>exact (Int.mul_zero k).symm
 | cons x a ih=>show k*x*r 0+d (mul k a) _=k*(_+_);rw [ih,Int.mul_add,Int.mul_assoc]
theorem d_unit (n:Nat) (r:Nat->Int):d (unit n) r=r n:=by
 induction n generalizing r with
 | zero=>show 1*r 0+0=r 0;rw [Int.one_mul,Int.add_zero]
 | succ n ih=>show 0*r 0+d (unit n) _=_;rw [ih,Int.zero_mul,Int.zero_add]
structure C where
 k:Int
 c:List Int
noncomputable def C.ev (r:Nat->Int) (x:C):Int:=x.k+d x.c r
noncomputable def C.add (x y:C):C:=⟨x.k+y.k,L.add x.c y.c⟩
noncomputable def C.mul (k:Int) (x:C):C:=⟨k*x.k,L.mul k x.c⟩
theorem C.ev_add (r:Nat->Int) (x y:C):(x.add y).ev r=x.ev r+y.ev r:=by
 show x.k+y.k+d (L.add x.c y.c) r=_;rw [d_add];exact add4 ..
theorem C.ev_mul (r:Nat->Int) (k:Int) (x:C):(x.mul k).ev r=k*x.ev r:=by
 show k*x.k+d (L.mul k x.c) r=_;rw [d_mul,<-Int.mul_add];rfl
noncomputable def C.sub (x y:C):C:=x.add (y.mul (-1))
theorem C.ev_sub (r:Nat->Int) (x y:C):(x.sub y).ev r=x.ev r-y.ev r:=by
 show (x.add (y.mul (-1))).ev r=_;rw [C.ev_add,C.ev_mul,Int.neg_mul,Int.one_mul];rfl
noncomputable def C.over (x y:C):C:=(x.sub y).add ⟨-1,[]⟩
theorem C.ev_over (r:Nat->Int) (x y:C):(x.over y).ev r=x.ev r-y.ev r-1:=by
 show ((x.sub y).add ⟨-1,[]⟩).ev r=_;rw [C.ev_add,C.ev_sub];rfl
noncomputable def C.hd (x:C):Int:=x.c.headD 0
noncomputable def C.tl (x:C):C:=⟨x.k,x.c.tail⟩
theorem C.ev_tl (r:Nat->Int) (x:C):x.ev r=x.hd*r 0+x.tl.ev fun i=>r (i+1):=by
 obtain ⟨k,c⟩:=x
 cases c with
 | nil=>show k+0=0*r 0+(k+0);rw [Int.zero_mul,Int.zero_add]
 | cons a c=>exact Int.add_left_comm ..
noncomputable def mix (p n:C):C:=(p.tl.mul (-n.hd)).add (n.tl.mul p.hd)
theorem mix_ok {r:Nat->Int} {p n:C} (hp:0 < p.hd) (hn:n.hd < 0) (h1:0<=p.ev r) (h2:0<=n.ev r):0<=(mix p n).ev fun i=>r (i+1):=by
 have e:(mix p n).ev (fun i=>r (i+1))=-n.hd*p.ev r+p.hd*n.ev r:=by
  show ((p.tl.mul (-n.hd)).add (n.tl.mul p.hd)).ev _=_
  rw [C.ev_add,C.ev_mul,C.ev_mul,C.ev_tl r p,C.ev_tl r n]
  generalize p.tl.ev _=a;generalize n.tl.ev _=b;generalize p.hd=u;generalize n.hd=v;generalize r 0=z
  rw [Int.mul_add,Int.mul_add,add4,<-Int.mul_assoc,<-Int.mul_assoc,<-Int.add_mul,Int.neg_mul v u,Int.mul_comm u v,Int.add_left_neg,Int.zero_mul,Int.zero_add]
 rw [e]
 exact Int.add_nonneg (Int.mul_nonneg (Int.neg_nonneg_of_nonpos (Int.le_of_lt hn)) h1) (Int.mul_nonneg (Int.le_of_lt hp) h2)
noncomputable def elim (cs:List C):List C:=
 (cs.filter fun x=>x.hd==0).map C.tl++(cs.filter fun x=>decide (0 < x.hd)).flatMap fun p=>(cs.filter fun x=>decide (x.hd < 0)).map (mix p)
theorem elim_ok {r:Nat->Int} {cs:List C} (h:∀ x∈cs,0<=x.ev r):∀ x∈elim cs,0<=x.ev fun i=>r (i+1):=by
 intro x hx
 rcases List.mem_append.mp hx with hx | hx
 ·obtain ⟨y,hy,rfl⟩:=List.mem_map.mp hx
  obtain ⟨hy,e⟩:=List.mem_filter.mp hy
  have:=h y hy
  rwa [C.ev_tl,eq_of_beq e,Int.zero_mul,Int.zero_add] at this
 ·obtain ⟨p,hp,hx⟩:=List.mem_flatMap.mp hx
  obtain ⟨n,hn,rfl⟩:=List.mem_map.mp hx
  obtain ⟨hp,e⟩:=List.mem_filter.mp hp
  obtain ⟨hn,e'⟩:=List.mem_filter.mp hn
  exact mix_ok (of_decide_eq_true e) (of_decide_eq_true e') (h p hp) (h n hn)
noncomputable def refute:Nat->List C->Bool
 | 0,cs=>cs.any fun x=>x.c.isEmpty&&decide (x.k < 0)
 | n+1,cs=>refute n cs||refute n (elim cs)
theorem refute_ok {n:Nat} {cs:List C} {r:Nat->Int} (e:refute n cs=true) (h:∀ x∈cs,0<=x.ev r):False:=by
 induction n generalizing cs r with
 | zero=>
  obtain ⟨x,hx,e⟩:=List.any_eq_true.mp e
  obtain ⟨k,c⟩:=x
  cases c with
  | nil=>exact absurd (Int.add_zero k ▸ h _ hx) (Int.not_le.mpr (of_decide_eq_true e))
  | cons a c=>cases e
 | succ n ih=>
  rcases Bool.or_eq_true_iff.mp e with e | e
  ·exact ih e h
  ·exact ih e (elim_ok h)
noncomputable def val (l:List Nat) (m:List Int) (i:Nat):Int:=if i % 2=0 then (l.getD (i / 2) 0:Nat) else m.getD (i / 2) 0
abbrev Br:=List (List C×C)
noncomputable def Br.two (f:C->C->Br) (a b:Br):Br:=a.flatMap fun p=>b.flatMap fun q=>(f p.2 q.2).map fun t=>(t.1++(p.1++q.1),t.2)
def Br.is (r:Nat->Int) (a:Br) (z:Int):Prop:=∃ p∈a,(∀ c∈p.1,0<=c.ev r)/\p.2.ev r=z
theorem Br.one {r:Nat->Int} {c:C} {z:Int} (h:c.ev r=z):Br.is r [([],c)] z:=⟨_,List.mem_singleton.mpr rfl,fun c hc=>absurd hc List.not_mem_nil,h⟩
theorem Br.two_is {r:Nat->Int} {f:C->C->Br} {a b:Br} {x y z:Int} (ha:a.is r x) (hb:b.is r y) (h:∀ p q:C,p.ev r=x->q.ev r=y->(f p q).is r z):(Br.two f a b).is r z:=by
 obtain ⟨p,hp,h1,h2⟩:=ha
 obtain ⟨q,hq,h3,h4⟩:=hb
 obtain ⟨t,ht,h5,h6⟩:=h p.2 q.2 h2 h4
 refine ⟨_,List.mem_flatMap.mpr ⟨p,hp,List.mem_flatMap.mpr ⟨q,hq,List.mem_map.mpr ⟨t,ht,rfl⟩⟩⟩,fun c hc=>?_,h6⟩
 rcases List.mem_append.mp hc with hc | hc
 ·exact h5 c hc
 ·rcases List.mem_append.mp hc with hc | hc
  ·exact h1 c hc
  ·exact h3 c hc
inductive T where
 | v (i:Nat) | c (n:Nat) | a (x y:T) | s (x y:T) | m (k:Nat) (x:T) | mn (x y:T) | mx (x y:T)
noncomputable def T.val (l:List Nat):T->Nat
 | v i=>l.getD i 0
 | c n=>n
 | a x y=>x.val l+y.val l
 | s x y=>x.val l-y.val l
 | m k x=>k*x.val l
 | mn x y=>min (x.val l) (y.val l)
 | mx x y=>max (x.val l) (y.val l)
noncomputable def T.br:T->Br
 | v i=>[([],⟨0,unit (2*i)⟩)]
 | c n=>[([],⟨n,[]⟩)]
 | a x y=>Br.two (fun p q=>[([],p.add q)]) x.br y.br
 | s x y=>Br.two (fun p q=>[([p.sub q],p.sub q),([q.over p],⟨0,[]⟩)]) x.br y.br
 | m k x=>Br.two (fun p _=>[([],p.mul k)]) x.br x.br
 | mn x y=>Br.two (fun p q=>[([q.sub p],p),([p.sub q],q)]) x.br y.br
 | mx x y=>Br.two (fun p q=>[([q.sub p],q),([p.sub q],p)]) x.br y.br
theorem Br.pick {r:Nat->Int} {p q u w:C} {z:Int} {s:Prop} [Decidable s] (h1:s->0<=p.ev r/\u.ev r=z) (h2:¬ s->0<=q.ev r/\w.ev r=z):Br.is r [([p],u),([q],w)] z:=by
 by_cases h:s
 ·exact ⟨_,List.mem_cons_self,fun c hc=>by rw [List.mem_singleton.mp hc];exact (h1 h).1,(h1 h).2⟩
 ·exact ⟨_,List.mem_cons_of_mem _ (List.mem_singleton.mpr rfl),fun c hc=>by rw [List.mem_singleton.mp hc];exact (h2 h).1,(h2 h).2⟩
theorem T.br_is (l:List Nat) (k:List Int) (t:T):t.br.is (L.val l k) (t.val l):=by
 induction t with
 | v i=>refine Br.one ?_;show 0+d _ _=_;rw [d_unit,Int.zero_add];unfold L.val;rw [if_pos (Nat.mul_mod_right 2 i),Nat.mul_div_cancel_left i (by decide)];rfl
 | c n=>exact Br.one (Int.add_zero _)
 | a x y hx hy=>exact Br.two_is hx hy fun p q h1 h2=>Br.one (by rw [C.ev_add,h1,h2];rfl)
 | s x y hx hy=>exact Br.two_is hx hy fun p q h1 h2=>Br.pick (s:=y.val l<=x.val l) (fun h=>by rw [C.ev_sub,h1,h2];exact ⟨Int.sub_nonneg_of_le (Int.ofNat_le.mpr h),(Int.ofNat_sub h).symm⟩) (fun h=>by rw [C.ev_over,h1,h2];have:=Nat.not_le.mp h;exact ⟨Int.sub_nonneg_of_le (show (1:Int)<=_ from Int.sub_pos_of_lt (Int.ofNat_lt.2 this)),by show (0+0:Int)=((x.val l-y.val l:Nat):Int);rw [Nat.sub_eq_zero_of_le (Nat.le_of_lt this)];rfl⟩)
 | m k x hx=>exact Br.two_is hx hx fun p q h1 h2=>Br.one (by rw [C.ev_mul,h1];rfl)
 | mn x y hx hy=>exact Br.two_is hx hy fun p q h1 h2=>Br.pick (s:=x.val l<=y.val l) (fun h=>by rw [C.ev_sub,h1,h2];exact ⟨Int.sub_nonneg_of_le (Int.ofNat_le.mpr h),congrArg Int.ofNat (Nat.min_eq_left h).symm⟩) (fun h=>by rw [C.ev_sub,h1,h2];have:=Nat.le_of_lt (Nat.not_le.mp h);exact ⟨Int.sub_nonneg_of_le (Int.ofNat_le.mpr this),congrArg Int.ofNat (Nat.min_eq_right this).symm⟩)
 | mx x y hx hy=>exact Br.two_is hx hy fun p q h1 h2=>Br.pick (s:=x.val l<=y.val l) (fun h=>by rw [C.ev_sub,h1,h2];exact ⟨Int.sub_nonneg_of_le (Int.ofNat_le.mpr h),congrArg Int.ofNat (Nat.max_eq_right h).symm⟩) (fun h=>by rw [C.ev_sub,h1,h2];have:=Nat.le_of_lt (Nat.not_le.mp h);exact ⟨Int.sub_nonneg_of_le (Int.ofNat_le.mpr this),congrArg Int.ofNat (Nat.max_eq_left this).symm⟩)
inductive Z where
 | v (i:Nat) | n (t:T) | c (n:Int) | a (x y:Z) | s (x y:Z) | g (x:Z) | m (k:Int) (x:Z)
noncomputable def Z.val (l:List Nat) (k:List Int):Z->Int
 | v i=>k.getD i 0
 | .n t=>(t.val l:Int)
 | c j=>j
 | a x y=>x.val l k+y.val l k
 | s x y=>x.val l k-y.val l k
 | g x=>- x.val l k
 | m j x=>j*x.val l k
noncomputable def Z.br:Z->Br
 | v i=>[([],⟨0,unit (2*i+1)⟩)]
 | .n t=>t.br
 | c j=>[([],⟨j,[]⟩)]
 | a x y=>Br.two (fun p q=>[([],p.add q)]) x.br y.br
 | s x y=>Br.two (fun p q=>[([],p.sub q)]) x.br y.br
 | g x=>Br.two (fun p _=>[([],p.mul (-1))]) x.br x.br
 | m k x=>Br.two (fun p _=>[([],p.mul k)]) x.br x.br
theorem Z.br_is (l:List Nat) (k:List Int) (t:Z):t.br.is (L.val l k) (t.val l k):=by
 induction t with
 | v i=>refine Br.one ?_;show 0+d _ _=_;rw [d_unit,Int.zero_add];unfold L.val;rw [if_neg (by rw [Nat.mul_add_mod];decide),show (2*i+1) / 2=i from Nat.mul_add_div (by decide) i 1];rfl
 | n t=>exact T.br_is l k t
 | c n=>exact Br.one (Int.add_zero _)
 | a x y hx hy=>exact Br.two_is hx hy fun p q h1 h2=>Br.one (by rw [C.ev_add,h1,h2];rfl)
 | s x y hx hy=>exact Br.two_is hx hy fun p q h1 h2=>Br.one (by rw [C.ev_sub,h1,h2];rfl)
 | g x hx=>exact Br.two_is hx hx fun p q h1 h2=>Br.one (by rw [C.ev_mul,h1,Int.neg_mul,Int.one_mul];rfl)
 | m k x hx=>exact Br.two_is hx hx fun p q h1 h2=>Br.one (by rw [C.ev_mul,h1];rfl)
inductive F where
 | le (x y:T) | lt (x y:T) | eq (x y:T) | zle (x y:Z) | zlt (x y:Z) | zeq (x y:Z)
 | no (f:F) | an (f g:F) | o (f g:F) | im (f g:F) | ff
noncomputable def F.holds (l:List Nat) (k:List Int):F->Prop
 | le x y=>x.val l<=y.val l
 | lt x y=>x.val l < y.val l
 | eq x y=>x.val l=y.val l
 | zle x y=>x.val l k<=y.val l k
 | zlt x y=>x.val l k < y.val l k
 | zeq x y=>x.val l k=y.val l k
 | no f=>¬ f.holds l k
 | an f g=>f.holds l k/\g.holds l k
 | o f g=>f.holds l k\/g.holds l k
 | im f g=>f.holds l k->g.holds l k
 | ff=>False
abbrev Dn:=List (List C)
def Dn.is (r:Nat->Int) (a:Dn):Prop:=∃ p∈a,∀ c∈p,0<=c.ev r
noncomputable def Br.cmp (a b:Br) (f:C->C->Dn):Dn:=a.flatMap fun p=>b.flatMap fun q=>(f p.2 q.2).map fun t=>t++(p.1++q.1)
theorem Br.cmp_is {r:Nat->Int} {f:C->C->Dn} {a b:Br} {x y:Int} (ha:a.is r x) (hb:b.is r y) (h:∀ p q:C,p.ev r=x->q.ev r=y->(f p q).is r):(Br.cmp a b f).is r:=by
 obtain ⟨p,hp,h1,h2⟩:=ha
 obtain ⟨q,hq,h3,h4⟩:=hb
 obtain ⟨t,ht,h5⟩:=h p.2 q.2 h2 h4
 refine ⟨_,List.mem_flatMap.mpr ⟨p,hp,List.mem_flatMap.mpr ⟨q,hq,List.mem_map.mpr ⟨t,ht,rfl⟩⟩⟩,fun c hc=>?_⟩
 rcases List.mem_append.mp hc with hc | hc
 ·exact h5 c hc
 ·rcases List.mem_append.mp hc with hc | hc
  ·exact h1 c hc
  ·exact h3 c hc
noncomputable def Dn.and (a b:Dn):Dn:=a.flatMap fun p=>b.map fun q=>p++q
theorem Dn.and_is {r:Nat->Int} {a b:Dn} (ha:a.is r) (hb:b.is r):(a.and b).is r:=by
 obtain ⟨p,hp,h1⟩:=ha
 obtain ⟨q,hq,h2⟩:=hb
 exact ⟨_,List.mem_flatMap.mpr ⟨p,hp,List.mem_map.mpr ⟨q,hq,rfl⟩⟩,fun c hc=>(List.mem_append.mp hc).elim (h1 c) (h2 c)⟩
theorem Dn.left {r:Nat->Int} {a b:Dn} (ha:a.is r):Dn.is r (a++b):=let ⟨p,hp,h⟩:=ha;⟨p,List.mem_append_left _ hp,h⟩
theorem Dn.right {r:Nat->Int} {a b:Dn} (hb:b.is r):Dn.is r (a++b):=let ⟨p,hp,h⟩:=hb;⟨p,List.mem_append_right _ hp,h⟩
theorem Dn.one {r:Nat->Int} {c:C} (h:0<=c.ev r):Dn.is r [[c]]:=⟨_,List.mem_singleton.mpr rfl,fun x hx=>by rw [List.mem_singleton.mp hx];exact h⟩
theorem Dn.cons {r:Nat->Int} {c:C} {p:List C} (h:0<=c.ev r) (q:Dn.is r [p]):Dn.is r [c::p]:=by
 obtain ⟨t,ht,q⟩:=q
 rw [List.mem_singleton.mp ht] at q
 exact ⟨_,List.mem_singleton.mpr rfl,fun x hx=>(List.mem_cons.mp hx).elim (fun e=>e ▸ h) (q x)⟩
noncomputable def le (b:Bool) (p q:C):Dn:=if b then [[q.sub p]] else [[p.over q]]
noncomputable def eq (b:Bool) (p q:C):Dn:=if b then [[q.sub p,p.sub q]] else [[p.over q]]++[[q.over p]]
def So (b:Bool) (s:Prop):Prop:=if b then s else ¬ s
theorem le_is {b:Bool} {r:Nat->Int} {p q:C} {x y:Int} (h:So b (x<=y)) (h1:p.ev r=x) (h2:q.ev r=y):(le b p q).is r:=by
 subst h1 h2
 cases b with
 | true=>exact Dn.one (by rw [C.ev_sub];exact Int.sub_nonneg_of_le h)
 | false=>exact Dn.one (by rw [C.ev_over];exact Int.sub_nonneg_of_le (Int.le_sub_left_of_add_le (Int.not_le.mp h)))
theorem lt_is {b:Bool} {r:Nat->Int} {p q:C} {x y:Int} (h:So b (x < y)) (h1:p.ev r=x) (h2:q.ev r=y):(le (!b) q p).is r:=by
 cases b with
 | true=>exact le_is (b:=false) (Int.not_le.mpr h) h2 h1
 | false=>exact le_is (b:=true) (Int.not_lt.mp h) h2 h1
theorem eq_is {b:Bool} {r:Nat->Int} {p q:C} {x y:Int} (h:So b (x=y)) (h1:p.ev r=x) (h2:q.ev r=y):(eq b p q).is r:=by
 cases b with
 | true=>exact Dn.cons (by rw [C.ev_sub,h1,h2];exact Int.sub_nonneg_of_le (Int.le_of_eq h)) (Dn.one (by rw [C.ev_sub,h1,h2];exact Int.sub_nonneg_of_le (Int.le_of_eq (Eq.symm h))))
 | false=>
  rcases Int.lt_or_gt_of_ne h with q | q
  ·exact Dn.right (le_is (b:=false) (Int.not_le.mpr q) h2 h1)
  ·exact Dn.left (le_is (b:=false) (Int.not_le.mpr q) h1 h2)
noncomputable def F.br:F->Bool->Dn
 | le x y,b=>x.br.cmp y.br (L.le b)
 | lt x y,b=>x.br.cmp y.br fun p q=>L.le (!b) q p
 | eq x y,b=>x.br.cmp y.br (L.eq b)
 | zle x y,b=>x.br.cmp y.br (L.le b)
 | zlt x y,b=>x.br.cmp y.br fun p q=>L.le (!b) q p
 | zeq x y,b=>x.br.cmp y.br (L.eq b)
 | no f,b=>f.br (!b)
 | an f g,b=>if b then (f.br b).and (g.br b) else f.br b++g.br b
 | o f g,b=>if b then f.br b++g.br b else (f.br b).and (g.br b)
 | im f g,b=>if b then f.br (!b)++g.br b else (f.br (!b)).and (g.br b)
 | ff,b=>if b then [] else [[]]
theorem So.of {b:Bool} {s t:Prop} (e:s↔t) (h:So b s):So b t:=by
 cases b with
 | true=>exact e.mp h
 | false=>exact fun q=>h (e.mpr q)
theorem So.not {b:Bool} {s:Prop} (h:So b (¬ s)):So (!b) s:=by
 cases b with
 | true=>exact h
 | false=>exact Classical.not_not.mp h
theorem F.br_is (l:List Nat) (k:List Int) (f:F):∀ b,So b (f.holds l k)->(f.br b).is (L.val l k):=by
 induction f with
 | le x y=>exact fun b h=>Br.cmp_is (T.br_is l k x) (T.br_is l k y) fun p q=>le_is (So.of Int.ofNat_le.symm h)
 | lt x y=>exact fun b h=>Br.cmp_is (T.br_is l k x) (T.br_is l k y) fun p q=>lt_is (So.of Int.ofNat_lt.symm h)
 | eq x y=>exact fun b h=>Br.cmp_is (T.br_is l k x) (T.br_is l k y) fun p q=>eq_is (So.of Int.ofNat_inj.symm h)
 | zle x y=>exact fun b h=>Br.cmp_is (Z.br_is l k x) (Z.br_is l k y) fun p q=>le_is h
 | zlt x y=>exact fun b h=>Br.cmp_is (Z.br_is l k x) (Z.br_is l k y) fun p q=>lt_is h
 | zeq x y=>exact fun b h=>Br.cmp_is (Z.br_is l k x) (Z.br_is l k y) fun p q=>eq_is h
 | no f hf=>exact fun b h=>hf _ (So.not h)
 | an f g hf hg=>
  intro b h
  cases b with
  | true=>exact Dn.and_is (hf true h.1) (hg true h.2)
  | false=>
   rcases Classical.not_and_iff_not_or_not.mp h with h | h
   ·exact Dn.left (hf false h)
   ·exact Dn.right (hg false h)
 | o f g hf hg=>
  intro b h
  cases b with
  | true=>exact h.elim (fun h=>Dn.left (hf true h)) fun h=>Dn.right (hg true h)
  | false=>exact Dn.and_is (hf false fun q=>h (.inl q)) (hg false fun q=>h (.inr q))
 | im f g hf hg=>
  intro b h
  cases b with
  | true=>
   by_cases q:f.holds l k
   ·exact Dn.right (hg true (h q))
   ·exact Dn.left (hf false q)
  | false=>exact Dn.and_is (hf true (Classical.not_not.mp fun q=>h fun z=>absurd z q)) (hg false fun q=>h fun _=>q)
 | ff=>
  intro b h
  cases b with
  | true=>exact absurd h id
  | false=>exact ⟨_,List.mem_singleton.mpr rfl,fun c hc=>by cases hc⟩
noncomputable def pos:Nat->List C
 | 0=>[]
 | n+1=>⟨0,unit (2*n)⟩::pos n
theorem pos_ok (l:List Nat) (k:List Int) (n:Nat):∀ c∈pos n,0<=c.ev (val l k):=by
 induction n with
 | zero=>exact fun c hc=>by cases hc
 | succ n ih=>
  intro c hc
  rcases List.mem_cons.mp hc with rfl | hc
  ·show 0<=0+d _ _
   rw [d_unit,Int.zero_add];unfold val;rw [if_pos (Nat.mul_mod_right 2 n)]
   exact Int.natCast_nonneg _
  ·exact ih c hc
theorem run (f:F) (n:Nat) (e:((f.br false).all fun p=>refute (2*n) (pos n++p))=true) (l:List Nat) (k:List Int):f.holds l k:=
 Classical.not_not.mp fun h=>by
  obtain ⟨p,hp,h⟩:=F.br_is l k f false h
  exact refute_ok (List.all_eq_true.mp e p hp) fun c hc=>(List.mem_append.mp hc).elim (pos_ok l k n c) (h c)
end Mine.Internal.L
abbrev Mine.Internal.LH (l:List Nat) (k:List Int) (f:Mine.Internal.L.F):Prop:=f.holds l k
end
section
namespace Mine.Internal
variable {a0 a1 a2 a3 a4 a5:Nat} {z0 z1 z2:Int}
theorem o1:((a0+1)+a1)=((a0+a1)+1):=L.run (.eq (.a (.a (.v 0) (.c 1)) (.v 1)) (.a (.a (.v 0) (.v 1)) (.c 1))) 2 rfl [a0,a1] []
theorem o2:((a0+1)<=a0)->False:=L.run (.im (.le (.a (.v 0) (.c 1)) (.v 0)) .ff) 1 rfl [a0] []
theorem o3:LH [a0,a1] [] (.im (.le (.v 0) (.s (.v 1) (.c 1))) (.im (.lt (.c 0) (.v 1)) (.le (.a (.v 0) (.c 1)) (.v 1)))):=L.run _ 2 rfl _ _
theorem o4:LH [a0,a1] [] (.im (.le (.v 0) (.v 1)) (.eq (.a (.s (.v 1) (.v 0)) (.v 0)) (.v 1))):=L.run _ 2 rfl _ _
theorem o5:LH [a0,a1] [] (.im (.lt (.v 0) (.v 1)) (.lt (.c 0) (.s (.v 1) (.v 0)))):=L.run _ 2 rfl _ _
theorem o6:LH [a0,a1] [] (.im (.lt (.v 0) (.v 1)) (.eq (.v 1) (.a (.v 0) (.s (.v 1) (.v 0))))):=L.run _ 2 rfl _ _
theorem o7:LH [a0,a1] [] (.im (.lt (.v 0) (.a (.c 0) (.v 1))) (.im (.le (.v 1) (.v 0)) .ff)):=L.run _ 2 rfl _ _
theorem o8:LH [a0,a1,a2] [] (.im (.lt (.v 0) (.a (.a (.v 1) (.c 1)) (.v 2))) (.lt (.v 0) (.a (.v 1) (.a (.v 2) (.c 1))))):=L.run _ 3 rfl _ _
theorem o9:LH [a0,a1] [] (.im (.le (.v 0) (.v 1)) (.im (.lt (.v 1) (.a (.v 0) (.c 0))) .ff)):=L.run _ 2 rfl _ _
theorem o10:LH [a0] [] (.le (.v 0) (.v 0)):=L.run _ 1 rfl _ _
theorem o11:LH [a0,a1] [] (.im (.lt (.v 0) (.v 1)) (.eq (.s (.v 1) (.v 0)) (.a (.s (.s (.v 1) (.v 0)) (.c 1)) (.c 1)))):=L.run _ 2 rfl _ _
theorem o12:(a0 < a1)->(a1-a0)=((a1-(a0+1))+1):=L.run (.im (.lt (.v 0) (.v 1)) (.eq (.s (.v 1) (.v 0)) (.a (.s (.v 1) (.a (.v 0) (.c 1))) (.c 1)))) 2 rfl [a0,a1] []
theorem o13:LH [a0,a1] [] (.lt (.v 0) (.a (.v 0) (.a (.v 1) (.c 1)))):=L.run _ 2 rfl _ _
theorem o14:LH [a0,a1] [] (.im (.le (.a (.v 0) (.c 1)) (.v 1)) (.le (.v 0) (.v 1))):=L.run _ 2 rfl _ _
theorem o15:LH [a0,a1,a2] [] (.im (.le (.v 0) (.v 1)) (.im (.lt (.v 2) (.a (.v 0) (.s (.v 1) (.v 0)))) (.lt (.v 2) (.v 1)))):=L.run _ 3 rfl _ _
theorem o16:LH [a0,a1] [] (.im (.le (.v 0) (.v 1)) (.im (.no (.eq (.v 1) (.v 0))) (.le (.a (.v 0) (.c 1)) (.v 1)))):=L.run _ 2 rfl _ _
theorem o17:LH [a0,a1,a2] [] (.im (.lt (.v 0) (.a (.v 1) (.a (.v 2) (.c 1)))) (.lt (.v 0) (.a (.a (.v 1) (.c 1)) (.v 2)))):=L.run _ 3 rfl _ _
theorem o18:LH [a0,a1] [] (.im (.lt (.v 0) (.a (.c 0) (.v 1))) (.lt (.v 0) (.v 1))):=L.run _ 2 rfl _ _
theorem o19:LH [a0] [] (.le (.c 0) (.v 0)):=L.run _ 1 rfl _ _
theorem o20:LH [a0,a1] [] (.im (.lt (.v 0) (.v 1)) (.lt (.v 0) (.a (.c 0) (.v 1)))):=L.run _ 2 rfl _ _
theorem o21:(a0<=a1)->(a0+(a1-a0))=a1:=L.run (.im (.le (.v 0) (.v 1)) (.eq (.a (.v 0) (.s (.v 1) (.v 0))) (.v 1))) 2 rfl [a0,a1] []
theorem o22:LH [a0,a1] [] (.eq (.a (.a (.v 0) (.c 1)) (.v 1)) (.a (.v 0) (.a (.v 1) (.c 1)))):=L.run _ 2 rfl _ _
theorem o23:LH [a0] [] (.no (.eq (.a (.v 0) (.c 1)) (.c 0))):=L.run _ 1 rfl _ _
theorem o24:LH [a0,a1] [] (.im (.lt (.a (.v 0) (.c 1)) (.v 1)) (.no (.eq (.a (.v 0) (.c 1)) (.v 1)))):=L.run _ 2 rfl _ _
theorem o31:LH [a0,a1] [] (.im (.lt (.v 0) (.v 1)) (.im (.le (.c 2) (.v 1)) (.lt (.a (.s (.v 0) (.c 1)) (.c 1)) (.v 1)))):=L.run _ 2 rfl _ _
theorem o35:LH [a0,a1] [] (.im (.o (.eq (.v 0) (.v 1)) (.eq (.a (.v 0) (.c 1)) (.v 1))) (.im (.no (.eq (.v 0) (.v 1))) (.eq (.a (.v 0) (.c 1)) (.v 1)))):=L.run _ 2 rfl _ _
theorem o38:LH [a0,a1,a2] [] (.im (.o (.eq (.v 0) (.v 1)) (.eq (.v 0) (.a (.v 1) (.c 1)))) (.im (.no (.eq (.v 2) (.v 1))) (.im (.no (.eq (.a (.v 2) (.c 1)) (.v 1))) (.no (.eq (.a (.v 2) (.c 1)) (.v 0)))))):=L.run _ 3 rfl _ _
theorem o39:LH [a0,a1] [] (.im (.eq (.v 0) (.s (.v 1) (.c 1))) (.o (.eq (.v 0) (.v 1)) (.eq (.a (.v 0) (.c 1)) (.v 1)))):=L.run _ 2 rfl _ _
theorem o43:LH [a0,a1] [] (.im (.le (.v 0) (.v 1)) (.no (.lt (.v 1) (.v 0)))):=L.run _ 2 rfl _ _
theorem o45:LH [a0,a1] [] (.im (.lt (.a (.v 0) (.c 1)) (.v 1)) (.lt (.a (.v 0) (.c 0)) (.v 1))):=L.run _ 2 rfl _ _
theorem o46:LH [a0,a1] [] (.im (.lt (.a (.v 0) (.c 1)) (.v 1)) (.lt (.a (.v 0) (.c 1)) (.v 1))):=L.run _ 2 rfl _ _
theorem o48:LH [a0] [] (.im (.le (.c 2) (.v 0)) (.lt (.a (.c 0) (.c 1)) (.v 0))):=L.run _ 1 rfl _ _
theorem o50:LH [a0] [] (.no (.eq (.a (.v 0) (.c 1)) (.a (.a (.v 0) (.c 1)) (.c 1)))):=L.run _ 1 rfl _ _
theorem o51:LH [a0,a1] [] (.im (.lt (.v 0) (.v 1)) (.im (.no (.lt (.a (.v 0) (.c 1)) (.v 1))) (.eq (.a (.v 0) (.c 1)) (.v 1)))):=L.run _ 2 rfl _ _
theorem o53:(a0<=a1)->a0<=(a1+1):=L.run (.im (.le (.v 0) (.v 1)) (.le (.v 0) (.a (.v 1) (.c 1)))) 2 rfl [a0,a1] []
theorem o54:(a0<=a1)->(a1 < (a0+1))->a1=a0:=L.run (.im (.le (.v 0) (.v 1)) (.im (.lt (.v 1) (.a (.v 0) (.c 1))) (.eq (.v 1) (.v 0)))) 2 rfl [a0,a1] []
theorem o55:(a0<=a1)->a0<=a1:=L.run (.im (.le (.v 0) (.v 1)) (.le (.v 0) (.v 1))) 2 rfl [a0,a1] []
theorem o61:LH [a0] [] (.no (.eq (.a (.v 0) (.c 1)) (.v 0))):=L.run _ 1 rfl _ _
theorem o71:LH [a0] [] (.eq (.a (.m 2 (.v 0)) (.c 2)) (.m 2 (.a (.v 0) (.c 1)))):=L.run _ 1 rfl _ _
theorem o72:LH [a0] [] (.im (.le (.c 2) (.v 0)) (.lt (.a (.s (.v 0) (.c 2)) (.c 1)) (.v 0))):=L.run _ 1 rfl _ _
theorem o74:LH [a0,a1] [] (.im (.lt (.v 0) (.v 1)) (.im (.eq (.v 1) (.v 0)) .ff)):=L.run _ 2 rfl _ _
theorem o76:LH [a0,a1,a2] [] (.im (.le (.v 0) (.v 1)) (.im (.le (.m 2 (.v 2)) (.v 0)) (.im (.eq (.v 1) (.m 2 (.v 2))) (.eq (.v 0) (.m 2 (.v 2)))))):=L.run _ 3 rfl _ _
theorem o77:LH [a0] [] (.im (.le (.c 2) (.v 0)) (.eq (.a (.a (.s (.v 0) (.c 2)) (.c 1)) (.c 1)) (.v 0))):=L.run _ 1 rfl _ _
theorem o79:LH [a0] [] (.im (.le (.c 2) (.v 0)) (.no (.eq (.v 0) (.c 0)))):=L.run _ 1 rfl _ _
theorem o81:LH [a0,a1,a2] [] (.im (.lt (.v 0) (.s (.v 1) (.v 2))) (.lt (.v 0) (.s (.v 1) (.v 2)))):=L.run _ 3 rfl _ _
theorem o82:LH [a0,a1,a2] [] (.im (.lt (.v 0) (.s (.v 1) (.v 2))) (.lt (.a (.v 0) (.v 2)) (.v 1))):=L.run _ 3 rfl _ _
theorem o83:LH [a0,a1,a2] [] (.im (.no (.lt (.v 0) (.s (.v 1) (.v 2)))) (.le (.v 1) (.a (.v 0) (.v 2)))):=L.run _ 3 rfl _ _
theorem o84:LH [a0,a1] [] (.eq (.a (.s (.v 0) (.v 1)) (.mn (.v 1) (.v 0))) (.v 0)):=L.run _ 2 rfl _ _
theorem o85:LH [a0,a1] [] (.im (.lt (.a (.v 0) (.c 1)) (.v 1)) (.lt (.v 0) (.v 1))):=L.run _ 2 rfl _ _
theorem o86:LH [a0,a1] [] (.im (.eq (.v 0) (.a (.v 1) (.c 0))) (.le (.v 0) (.v 1))):=L.run _ 2 rfl _ _
theorem o87:LH [a0,a1,a2] [] (.im (.lt (.v 0) (.v 1)) (.im (.no (.lt (.v 0) (.s (.v 1) (.v 2)))) (.lt (.s (.v 0) (.s (.v 1) (.v 2))) (.v 2)))):=L.run _ 3 rfl _ _
theorem o88:LH [a0,a1] [] (.im (.lt (.v 0) (.v 1)) (.lt (.v 0) (.v 1))):=L.run _ 2 rfl _ _
theorem o89:LH [a0] [] (.eq (.v 0) (.a (.c 0) (.v 0))):=L.run _ 1 rfl _ _
theorem o90:LH [a0,a1,a2] [] (.im (.eq (.v 0) (.v 1)) (.im (.eq (.v 2) (.v 1)) (.eq (.v 0) (.v 2)))):=L.run _ 3 rfl _ _
theorem o91:LH [a0,a1,a2] [] (.im (.eq (.a (.v 0) (.c 1)) (.v 0)) (.eq (.v 1) (.v 2))):=L.run _ 3 rfl _ _
theorem o92:LH [a0,a1,a2] [] (.im (.le (.v 0) (.v 1)) (.im (.lt (.v 2) (.v 1)) (.lt (.s (.a (.v 2) (.v 0)) (.v 1)) (.v 1)))):=L.run _ 3 rfl _ _
theorem o93:LH [a0,a1,a2] [] (.im (.no (.eq (.v 0) (.a (.v 1) (.c 1)))) (.im (.eq (.a (.v 1) (.c 1)) (.v 0)) (.eq (.v 2) (.v 0)))):=L.run _ 3 rfl _ _
theorem o94:LH [a0,a1,a2] [] (.im (.eq (.v 0) (.a (.v 0) (.c 1))) (.eq (.v 1) (.v 2))):=L.run _ 3 rfl _ _
theorem o95:LH [a0,a1] [] (.im (.no (.lt (.a (.v 0) (.c 1)) (.v 1))) (.le (.v 1) (.a (.v 0) (.c 1)))):=L.run _ 2 rfl _ _
theorem o96:LH [a0,a1] [] (.im (.eq (.v 0) (.a (.v 1) (.c 0))) (.eq (.v 1) (.v 0))):=L.run _ 2 rfl _ _
theorem o97:LH [a0,a1,a2] [] (.im (.eq (.v 0) (.a (.v 1) (.c 1))) (.im (.eq (.v 2) (.a (.v 1) (.c 1))) (.eq (.v 0) (.v 2)))):=L.run _ 3 rfl _ _
theorem o98:LH [a0,a1,a2] [] (.im (.eq (.v 0) (.a (.v 1) (.a (.v 2) (.c 1)))) (.lt (.v 1) (.v 0))):=L.run _ 3 rfl _ _
theorem o99:LH [a0,a1] [] (.im (.eq (.v 0) (.v 1)) (.eq (.v 0) (.a (.v 1) (.c 0)))):=L.run _ 2 rfl _ _
theorem o100:LH [a0,a1,a2] [] (.im (.no (.eq (.v 0) (.v 1))) (.im (.eq (.v 1) (.v 0)) (.eq (.v 2) (.v 0)))):=L.run _ 3 rfl _ _
theorem o101:LH [a0] [] (.lt (.c 0) (.a (.v 0) (.c 1))):=L.run _ 1 rfl _ _
theorem o102:LH [a0,a1,a2] [] (.im (.eq (.v 0) (.a (.v 1) (.a (.v 2) (.c 1)))) (.eq (.v 0) (.a (.a (.v 1) (.c 1)) (.v 2)))):=L.run _ 3 rfl _ _
theorem o103:LH [a0,a1] [] (.im (.eq (.v 0) (.v 1)) (.eq (.v 0) (.v 1))):=L.run _ 2 rfl _ _
theorem o104:LH [a0,a1] [] (.im (.lt (.v 0) (.v 1)) (.lt (.a (.v 0) (.c 1)) (.a (.v 1) (.c 1)))):=L.run _ 2 rfl _ _
theorem o105:LH [a0,a1,a2] [] (.im (.no (.eq (.v 0) (.a (.v 1) (.c 1)))) (.im (.eq (.v 0) (.a (.v 1) (.c 1))) (.eq (.v 0) (.v 2)))):=L.run _ 3 rfl _ _
theorem o106:LH [a0,a1,a2] [] (.im (.le (.v 0) (.v 1)) (.eq (.s (.v 2) (.s (.v 1) (.v 0))) (.s (.a (.v 2) (.v 0)) (.v 1)))):=L.run _ 3 rfl _ _
theorem o107:LH [a0,a1] [] (.im (.lt (.a (.v 0) (.c 1)) (.a (.v 1) (.c 1))) (.lt (.v 0) (.v 1))):=L.run _ 2 rfl _ _
theorem o108:LH [a0,a1,a2] [] (.im (.no (.eq (.v 0) (.v 1))) (.im (.eq (.v 0) (.v 1)) (.eq (.v 0) (.v 2)))):=L.run _ 3 rfl _ _
theorem o109:LH [a0,a1,a2] [] (.im (.eq (.v 0) (.a (.a (.v 1) (.c 1)) (.v 2))) (.eq (.v 0) (.a (.v 1) (.a (.v 2) (.c 1))))):=L.run _ 3 rfl _ _
theorem o110:LH [a0,a1] [] (.im (.eq (.v 0) (.v 1)) (.im (.le (.a (.v 0) (.c 1)) (.v 1)) .ff)):=L.run _ 2 rfl _ _
theorem o111:LH [a0,a1,a2,a3] [] (.im (.eq (.v 0) (.a (.a (.v 1) (.c 1)) (.v 2))) (.im (.eq (.v 3) (.v 1)) (.im (.eq (.v 3) (.v 0)) .ff))):=L.run _ 4 rfl _ _
theorem o112:LH [a0] [] (.im (.le (.c 2) (.v 0)) (.lt (.c 0) (.v 0))):=L.run _ 1 rfl _ _
theorem o113:LH [a0,a1,a2] [] (.im (.le (.v 0) (.v 1)) (.im (.no (.eq (.v 1) (.v 2))) (.im (.eq (.v 0) (.v 2)) (.le (.a (.v 2) (.c 1)) (.v 1))))):=L.run _ 3 rfl _ _
theorem o114:LH [a0,a1] [] (.im (.no (.eq (.v 0) (.v 1))) (.no (.eq (.v 1) (.v 0)))):=L.run _ 2 rfl _ _
theorem o115:LH [a0,a1,a2] [] (.im (.eq (.v 0) (.v 1)) (.im (.lt (.a (.v 2) (.c 1)) (.v 1)) (.lt (.a (.v 2) (.c 1)) (.v 0)))):=L.run _ 3 rfl _ _
theorem o116:LH [a0,a1,a2] [] (.im (.le (.v 0) (.v 1)) (.im (.eq (.v 0) (.a (.v 2) (.c 1))) (.le (.v 2) (.v 1)))):=L.run _ 3 rfl _ _
theorem o117:LH [a0,a1,a2] [] (.im (.lt (.v 0) (.v 1)) (.im (.lt (.v 1) (.v 2)) (.lt (.v 0) (.v 2)))):=L.run _ 3 rfl _ _
theorem o118:LH [a0,a1,a2] [] (.im (.eq (.v 0) (.a (.c 0) (.v 1))) (.im (.eq (.v 0) (.a (.c 0) (.v 2))) (.eq (.v 1) (.v 2)))):=L.run _ 3 rfl _ _
theorem o119:LH [a0,a1] [] (.im (.eq (.v 0) (.a (.v 1) (.c 0))) (.eq (.v 0) (.v 1))):=L.run _ 2 rfl _ _
theorem o120:LH [a0,a1] [] (.im (.eq (.v 0) (.a (.v 1) (.c 1))) (.no (.eq (.v 0) (.v 1)))):=L.run _ 2 rfl _ _
theorem o121:LH [a0,a1] [] (.im (.no (.eq (.v 0) (.a (.v 1) (.c 1)))) (.no (.eq (.a (.v 1) (.c 1)) (.v 0)))):=L.run _ 2 rfl _ _
theorem o122:LH [a0,a1] [] (.le (.mn (.v 0) (.v 1)) (.a (.v 0) (.c 1))):=L.run _ 2 rfl _ _
theorem o123:LH [a0,a1] [] (.im (.lt (.a (.v 0) (.c 1)) (.v 1)) (.eq (.a (.mn (.v 0) (.v 1)) (.a (.a (.s (.v 1) (.a (.v 0) (.c 2))) (.c 1)) (.c 1))) (.v 1))):=L.run _ 2 rfl _ _
theorem o124:LH [a0,a1] [] (.im (.lt (.a (.v 0) (.c 1)) (.v 1)) (.eq (.mn (.v 0) (.v 1)) (.v 0))):=L.run _ 2 rfl _ _
theorem o125:LH [a0,a1] [] (.im (.eq (.v 0) (.a (.v 1) (.c 1))) (.im (.le (.v 0) (.v 1)) .ff)):=L.run _ 2 rfl _ _
theorem o126:LH [a0,a1] [] (.im (.lt (.v 0) (.s (.v 1) (.c 1))) (.lt (.a (.v 0) (.c 1)) (.v 1))):=L.run _ 2 rfl _ _
theorem o127:LH [a0,a1] [] (.le (.mn (.v 0) (.v 1)) (.v 0)):=L.run _ 2 rfl _ _
theorem o128:LH [a0,a1,a2] [] (.im (.eq (.v 0) (.a (.c 0) (.v 1))) (.im (.lt (.v 1) (.v 2)) (.lt (.v 0) (.v 2)))):=L.run _ 3 rfl _ _
theorem o129:LH [a0,a1,a2] [] (.im (.lt (.a (.v 0) (.c 1)) (.v 1)) (.im (.lt (.v 2) (.v 0)) (.lt (.v 2) (.mn (.v 0) (.v 1))))):=L.run _ 3 rfl _ _
theorem o130:LH [a0,a1,a2] [] (.im (.no (.eq (.v 0) (.v 1))) (.im (.no (.eq (.v 0) (.a (.v 1) (.c 1)))) (.im (.no (.lt (.v 0) (.v 1))) (.le (.a (.mn (.v 1) (.v 2)) (.c 2)) (.v 0))))):=L.run _ 3 rfl _ _
theorem o131:LH [a0,a1,a2] [] (.im (.lt (.a (.v 0) (.c 1)) (.v 1)) (.im (.no (.eq (.v 2) (.v 0))) (.im (.no (.eq (.v 2) (.a (.v 0) (.c 1)))) (.im (.no (.lt (.v 2) (.v 0))) (.eq (.a (.a (.v 0) (.c 2)) (.s (.v 2) (.a (.mn (.v 0) (.v 1)) (.c 2)))) (.v 2)))))):=L.run _ 3 rfl _ _
theorem o132:LH [a0,a1] [] (.im (.lt (.v 0) (.c 5)) (.im (.lt (.a (.v 1) (.c 1)) (.v 0)) (.lt (.v 1) (.c 4)))):=L.run _ 2 rfl _ _
theorem o133:LH [a0] [] (.no (.zeq (.a (.n (.v 0)) (.c 1)) (.c 0))):=L.run _ 1 rfl _ _
theorem o134:LH [a0] [] (.no (.zeq (.g (.a (.n (.v 0)) (.c 1))) (.c 0))):=L.run _ 1 rfl _ _
theorem o135:LH [a0] [] (.im (.zlt (.a (.n (.v 0)) (.c 1)) (.c 0)) (.zeq (.g (.a (.n (.v 0)) (.c 1))) (.a (.n (.v 0)) (.c 1)))):=L.run _ 1 rfl _ _
theorem o136:LH [a0] [] (.no (.zlt (.a (.n (.v 0)) (.c 1)) (.c 0))):=L.run _ 1 rfl _ _
theorem o137:LH [a0] [] (.zeq (.a (.n (.v 0)) (.c 1)) (.a (.n (.v 0)) (.c 1))):=L.run _ 1 rfl _ _
theorem o138:LH [a0,a1] [] (.im (.zeq (.a (.n (.v 0)) (.c 1)) (.a (.n (.v 1)) (.c 1))) (.eq (.v 1) (.v 0))):=L.run _ 2 rfl _ _
theorem o139:LH [a0] [] (.zlt (.g (.a (.n (.v 0)) (.c 1))) (.c 0)):=L.run _ 1 rfl _ _
theorem o140:LH [a0] [] (.zeq (.g (.g (.a (.n (.v 0)) (.c 1)))) (.a (.n (.v 0)) (.c 1))):=L.run _ 1 rfl _ _
theorem o141:LH [a0] [] (.im (.no (.zlt (.g (.a (.n (.v 0)) (.c 1))) (.c 0))) (.zeq (.g (.a (.n (.v 0)) (.c 1))) (.a (.n (.v 0)) (.c 1)))):=L.run _ 1 rfl _ _
theorem o142:LH [a0] [z0,z1,z2] (.im (.o (.an (.zeq (.v 0) (.a (.n (.v 0)) (.c 1))) (.zeq (.v 1) (.c 1))) (.an (.zeq (.v 0) (.g (.a (.n (.v 0)) (.c 1)))) (.zeq (.v 1) (.c (-1))))) (.im (.o (.an (.zeq (.v 0) (.a (.n (.v 0)) (.c 1))) (.zeq (.v 2) (.c 1))) (.an (.zeq (.v 0) (.g (.a (.n (.v 0)) (.c 1)))) (.zeq (.v 2) (.c (-1))))) (.zeq (.v 1) (.v 2)))):=L.run _ 3 (by decide +kernel) _ _
theorem o143:LH [a0,a1] [] (.no (.zeq (.n (.v 0)) (.a (.n (.v 0)) (.a (.n (.v 1)) (.c 1))))):=L.run _ 2 rfl _ _
theorem o144:LH [a0,a1] [] (.zeq (.a (.a (.n (.a (.v 0) (.c 1))) (.n (.v 1))) (.c 1)) (.a (.a (.n (.v 0)) (.n (.a (.v 1) (.c 1)))) (.c 1))):=L.run _ 2 rfl _ _
theorem o145:LH [a0,a1] [] (.im (.lt (.v 0) (.v 1)) (.no (.zeq (.n (.v 0)) (.n (.v 1))))):=L.run _ 2 rfl _ _
theorem o146:LH [a0] [] (.zeq (.a (.a (.n (.v 0)) (.c 1)) (.c (-1))) (.n (.v 0))):=L.run _ 1 rfl _ _
theorem o147:LH [a0] [] (.zeq (.s (.a (.n (.v 0)) (.c 1)) (.c 1)) (.n (.v 0))):=L.run _ 1 rfl _ _
theorem o148:LH [a0,a1] [] (.im (.zeq (.n (.v 0)) (.n (.v 1))) (.eq (.v 0) (.v 1))):=L.run _ 2 rfl _ _
theorem o155:LH [a0,a1,a2] [] (.im (.le (.v 0) (.v 1)) (.im (.lt (.v 2) (.a (.c 0) (.v 0))) (.im (.zeq (.n (.v 2)) (.n (.v 1))) .ff))):=L.run _ 3 rfl _ _
theorem o156:LH [a0,a1] [] (.im (.lt (.a (.v 0) (.a (.v 1) (.c 1))) (.c 1000)) (.lt (.a (.a (.v 0) (.c 1)) (.v 1)) (.c 1000))):=L.run _ 2 rfl _ _
theorem o157:(a0<=a1)->(a1<=a0)->a0=a1:=L.run (.im (.le (.v 0) (.v 1)) (.im (.le (.v 1) (.v 0)) (.eq (.v 0) (.v 1)))) 2 rfl [a0,a1] []
theorem o158:LH [a0,a1] [] (.im (.lt (.a (.v 0) (.a (.v 1) (.c 1))) (.c 1000)) (.lt (.v 0) (.c 16777216))):=L.run _ 2 rfl _ _
theorem o164:LH [a0] [] (.im (.le (.v 0) (.c 10)) (.le (.v 0) (.c 16777216))):=L.run _ 1 rfl _ _
theorem o173:LH [a0] [] (.zlt (.c 0) (.a (.n (.v 0)) (.c 1))):=L.run _ 1 rfl _ _
theorem o174:LH [a0,a1,a2] [] (.im (.le (.v 0) (.a (.v 1) (.v 2))) (.le (.v 0) (.a (.v 1) (.a (.v 2) (.c 1))))):=L.run _ 3 rfl _ _
theorem o175:LH [a0,a1,a2] [] (.im (.le (.v 0) (.a (.a (.v 1) (.c 1)) (.v 2))) (.le (.v 0) (.a (.v 1) (.a (.v 2) (.c 1))))):=L.run _ 3 rfl _ _
theorem o176:LH [a0] [] (.no (.zlt (.c 0) (.g (.a (.n (.v 0)) (.c 1))))):=L.run _ 1 rfl _ _
theorem o178:LH [a0,a1] [] (.im (.le (.a (.v 0) (.a (.v 1) (.c 1))) (.c 1000)) (.le (.v 0) (.c 1000))):=L.run _ 2 rfl _ _
theorem o180:LH [a0,a1] [] (.im (.le (.v 0) (.v 1)) (.im (.le (.v 1) (.c 1000)) (.lt (.v 0) (.c 16777216)))):=L.run _ 2 rfl _ _
theorem o181:LH [a0,a1] [] (.im (.le (.v 0) (.c 1000)) (.im (.le (.v 1) (.v 0)) (.le (.v 1) (.c 16777216)))):=L.run _ 2 rfl _ _
theorem o182:LH [a0,a1] [] (.im (.zeq (.a (.n (.v 0)) (.c 1)) (.a (.n (.v 1)) (.c 1))) (.eq (.v 0) (.v 1))):=L.run _ 2 rfl _ _
theorem o183:LH [a0] [] (.no (.zlt (.n (.v 0)) (.c 0))):=L.run _ 1 rfl _ _
theorem o184:LH [a0,a1] [] (.im (.le (.v 0) (.v 1)) (.eq (.mn (.v 0) (.v 1)) (.v 0))):=L.run _ 2 rfl _ _
theorem o185:LH [a0] [] (.im (.le (.v 0) (.c 1000)) (.le (.v 0) (.c 16777216))):=L.run _ 1 rfl _ _
theorem o187:LH [a0] [] (.zle (.c 0) (.a (.n (.v 0)) (.c 1))):=L.run _ 1 rfl _ _
theorem o189:LH [] [z0] (.im (.zlt (.v 0) (.c 0)) (.no (.zlt (.c 0) (.v 0)))):=L.run _ 1 rfl _ _
theorem o190:LH [a0] [] (.zle (.c 0) (.n (.v 0))):=L.run _ 1 rfl _ _
theorem o192:LH [] [z0] (.im (.zlt (.c 0) (.v 0)) (.zle (.c 0) (.v 0))):=L.run _ 1 rfl _ _
theorem o193:LH [] [z0] (.im (.zlt (.c 0) (.v 0)) (.no (.zeq (.v 0) (.c 0)))):=L.run _ 1 rfl _ _
theorem o195:LH [a0] [] (.im (.le (.v 0) (.c 1000)) (.zle (.n (.v 0)) (.n (.c 16777216)))):=L.run _ 1 rfl _ _
theorem o196:LH [] [z0] (.im (.zle (.c 0) (.v 0)) (.zle (.c 0) (.a (.v 0) (.c 48271)))):=L.run _ 1 rfl _ _
theorem o197:LH [] [z0] (.im (.zlt (.v 0) (.c 2147483647)) (.zlt (.a (.v 0) (.c 48271)) (.c 2147531918))):=L.run _ 1 rfl _ _
theorem o198:LH [] [z0] (.im (.zlt (.v 0) (.c 2147483647)) (.zlt (.v 0) (.c 2147531918))):=L.run _ 1 rfl _ _
theorem o199:LH [a0] [] (.im (.le (.v 0) (.c 20)) (.lt (.a (.v 0) (.c 1)) (.c 1000))):=L.run _ 1 rfl _ _
theorem o200:LH [a0,a1] [] (.im (.lt (.a (.v 0) (.c 1)) (.v 1)) (.le (.v 0) (.v 1))):=L.run _ 2 rfl _ _
theorem o201:LH [a0,a1] [] (.im (.lt (.a (.v 0) (.c 1)) (.v 1)) (.le (.a (.v 0) (.c 2)) (.v 1))):=L.run _ 2 rfl _ _
theorem o202:LH [a0] [] (.im (.le (.v 0) (.c 20)) (.le (.a (.v 0) (.c 1)) (.c 1000))):=L.run _ 1 rfl _ _
theorem o203:LH [a0,a1,a2] [] (.im (.eq (.v 0) (.v 1)) (.im (.lt (.v 2) (.v 1)) (.lt (.v 2) (.v 0)))):=L.run _ 3 rfl _ _
theorem o204:LH [a0] [] (.im (.lt (.v 0) (.c 5)) (.le (.v 0) (.c 16777216))):=L.run _ 1 rfl _ _
theorem o205:LH [a0] [] (.im (.lt (.v 0) (.c 5)) (.le (.v 0) (.c 1000))):=L.run _ 1 rfl _ _
theorem o206:LH [a0,a1] [] (.im (.le (.v 0) (.c 10)) (.im (.eq (.v 1) (.v 0)) (.le (.v 1) (.c 10)))):=L.run _ 2 rfl _ _
theorem o207:LH [a0,a1] [] (.im (.eq (.v 0) (.a (.v 1) (.c 1))) (.le (.c 1) (.v 0))):=L.run _ 2 rfl _ _
theorem o208:LH [a0] [] (.im (.lt (.v 0) (.c 5)) (.le (.v 0) (.c 10))):=L.run _ 1 rfl _ _
theorem o209:LH [a0,a1] [] (.im (.le (.v 0) (.c 10)) (.le (.mn (.v 1) (.v 0)) (.c 16777214))):=L.run _ 2 rfl _ _
theorem o210:LH [a0] [] (.zeq (.a (.n (.v 0)) (.c 2)) (.n (.a (.v 0) (.c 2)))):=L.run _ 1 rfl _ _
theorem o211:LH [a0,a1] [] (.im (.no (.eq (.v 0) (.v 1))) (.no (.zeq (.n (.v 0)) (.n (.v 1))))):=L.run _ 2 rfl _ _
theorem o213:LH [a0] [] (.im (.le (.c 2) (.v 0)) (.zlt (.c 0) (.s (.n (.v 0)) (.c 1)))):=L.run _ 1 rfl _ _
theorem o214:LH [] [z0] (.im (.zle (.c 0) (.v 0)) (.im (.zlt (.v 0) (.c 2)) (.im (.no (.zeq (.v 0) (.c 0))) (.zeq (.v 0) (.c 1))))):=L.run _ 1 rfl _ _
theorem o215:LH [a0,a1] [] (.im (.lt (.a (.v 0) (.a (.v 1) (.c 1))) (.c 100)) (.lt (.v 0) (.c 100))):=L.run _ 2 rfl _ _
theorem o216:LH [a0,a1] [] (.im (.lt (.a (.v 0) (.a (.v 1) (.c 1))) (.c 100)) (.lt (.a (.a (.v 0) (.c 1)) (.v 1)) (.c 100))):=L.run _ 2 rfl _ _
theorem o217:LH [a0] [] (.zle (.c 0) (.a (.c 2) (.n (.v 0)))):=L.run _ 1 rfl _ _
theorem o218:LH [a0] [] (.zeq (.s (.n (.v 0)) (.c 1)) (.s (.n (.v 0)) (.c 1))):=L.run _ 1 rfl _ _
theorem o219:LH [a0] [] (.im (.le (.c 2) (.v 0)) (.im (.no (.zlt (.c 1) (.s (.n (.v 0)) (.c 1)))) (.zeq (.c 1) (.s (.n (.v 0)) (.c 1))))):=L.run _ 1 rfl _ _
theorem o220:LH [a0] [] (.im (.le (.c 2) (.v 0)) (.no (.zeq (.s (.n (.v 0)) (.c 1)) (.c 0)))):=L.run _ 1 rfl _ _
theorem o221:LH [a0] [] (.im (.lt (.v 0) (.c 100)) (.lt (.v 0) (.c 16777216))):=L.run _ 1 rfl _ _
theorem o222:LH [a0,a1,a2] [] (.im (.lt (.a (.v 0) (.c 1)) (.v 1)) (.im (.eq (.v 2) (.v 1)) (.lt (.a (.v 0) (.c 1)) (.v 2)))):=L.run _ 3 rfl _ _
theorem o223:LH [a0,a1] [] (.im (.lt (.v 0) (.c 5)) (.im (.eq (.v 1) (.v 0)) (.le (.v 1) (.c 10)))):=L.run _ 2 rfl _ _
theorem o224:LH [a0,a1] [] (.im (.lt (.a (.v 0) (.a (.v 1) (.c 1))) (.c 100)) (.lt (.a (.v 0) (.v 1)) (.c 100))):=L.run _ 2 rfl _ _
theorem o225:LH [a0] [] (.im (.lt (.c 1) (.v 0)) (.lt (.c 0) (.v 0))):=L.run _ 1 rfl _ _
theorem o226:LH [a0] [] (.im (.lt (.c 1) (.v 0)) (.lt (.c 1) (.v 0))):=L.run _ 1 rfl _ _
theorem o230:LH [a0] [] (.im (.lt (.c 1) (.v 0)) (.zlt (.c 1) (.n (.v 0)))):=L.run _ 1 rfl _ _
theorem o231:LH [a0] [] (.im (.no (.lt (.c 1) (.v 0))) (.zle (.n (.v 0)) (.c 1))):=L.run _ 1 rfl _ _
theorem o232:LH [a0] [z0] (.im (.zle (.c 0) (.v 0)) (.im (.zeq (.n (.v 0)) (.a (.c 1) (.v 0))) (.lt (.c 0) (.v 0)))):=L.run _ 1 rfl _ _
theorem o233:LH [a0] [z0] (.im (.zlt (.v 0) (.c 4)) (.im (.zeq (.n (.v 0)) (.a (.c 1) (.v 0))) (.lt (.v 0) (.c 5)))):=L.run _ 1 rfl _ _
theorem o242:LH [a0] [z0] (.im (.zle (.c 0) (.v 0)) (.im (.zeq (.n (.v 0)) (.a (.c 1) (.v 0))) (.zeq (.s (.n (.v 0)) (.c 1)) (.n (.s (.v 0) (.c 1)))))):=L.run _ 1 rfl _ _
theorem o243:LH [a0] [z0] (.im (.zlt (.v 0) (.c 4)) (.im (.zeq (.n (.v 0)) (.a (.c 1) (.v 0))) (.le (.s (.v 0) (.c 1)) (.c 1000)))):=L.run _ 1 rfl _ _
theorem o244:LH [a0] [z0] (.im (.zle (.c 0) (.v 0)) (.im (.zeq (.n (.v 0)) (.a (.c 1) (.v 0))) (.im (.no (.le (.c 2) (.v 0))) (.eq (.v 0) (.c 1))))):=L.run _ 1 rfl _ _
theorem o245:LH [a0] [] (.im (.no (.le (.c 2) (.v 0))) (.no (.lt (.c 1) (.v 0)))):=L.run _ 1 rfl _ _
theorem o246:LH [a0] [] (.im (.no (.le (.c 2) (.v 0))) (.im (.le (.c 2) (.v 0)) .ff)):=L.run _ 1 rfl _ _
theorem o247:LH [] [] (.le (.c 0) (.c 1000)):=L.run _ 0 rfl _ _
theorem o248:LH [a0,a1] [] (.im (.le (.v 0) (.v 1)) (.le (.a (.c 1) (.v 0)) (.a (.v 1) (.c 1)))):=L.run _ 2 rfl _ _
theorem o249:LH [a0] [] (.im (.lt (.v 0) (.c 1000)) (.lt (.v 0) (.c 16777216))):=L.run _ 1 rfl _ _
theorem o250:LH [a0] [] (.im (.le (.v 0) (.c 10)) (.le (.v 0) (.c 1000))):=L.run _ 1 rfl _ _
theorem o251:LH [a0,a1] [] (.im (.le (.a (.v 0) (.a (.v 1) (.c 1))) (.c 10)) (.lt (.v 0) (.c 1000))):=L.run _ 2 rfl _ _
theorem o252:LH [a0,a1] [] (.im (.lt (.a (.v 0) (.v 1)) (.c 1000)) (.lt (.v 0) (.c 1000))):=L.run _ 2 rfl _ _
theorem o253:LH [a0,a1] [] (.im (.lt (.a (.v 0) (.a (.v 1) (.c 1))) (.c 1000)) (.lt (.a (.v 0) (.v 1)) (.c 1000))):=L.run _ 2 rfl _ _
theorem o254:LH [a0,a1] [] (.im (.no (.eq (.v 0) (.a (.v 1) (.c 1)))) (.no (.zeq (.n (.v 0)) (.a (.n (.v 1)) (.c 1))))):=L.run _ 2 rfl _ _
theorem o255:LH [a0,a1,a2] [] (.im (.le (.v 0) (.v 1)) (.im (.eq (.v 2) (.v 1)) (.le (.v 0) (.v 2)))):=L.run _ 3 rfl _ _
theorem o256:LH [a0,a1,a2,a3] [] (.im (.le (.v 0) (.v 1)) (.im (.le (.v 2) (.v 3)) (.le (.a (.v 0) (.v 2)) (.a (.v 3) (.m 1 (.v 1)))))):=L.run _ 4 rfl _ _
theorem o257:LH [a0] [] (.im (.lt (.v 0) (.c 5)) (.le (.v 0) (.c 4))):=L.run _ 1 rfl _ _
theorem o258:LH [a0,a1] [] (.im (.lt (.v 0) (.c 500)) (.le (.a (.s (.v 0) (.v 1)) (.mn (.v 1) (.v 0))) (.c 16777216))):=L.run _ 2 rfl _ _
theorem o260:LH [a0] [] (.im (.le (.v 0) (.c 10)) (.le (.a (.c 1) (.v 0)) (.c 16777216))):=L.run _ 1 rfl _ _
theorem o263:LH [a0,a1] [z0] (.im (.zlt (.v 0) (.n (.v 0))) (.im (.zeq (.n (.v 1)) (.v 0)) (.le (.v 1) (.v 0)))):=L.run _ 2 rfl _ _
theorem o264:LH [a0,a1] [z0] (.im (.zlt (.v 0) (.c 1)) (.im (.zeq (.n (.v 0)) (.v 0)) (.le (.v 0) (.v 1)))):=L.run _ 2 rfl _ _
theorem o265:LH [a0,a1] [] (.im (.le (.v 0) (.c 40)) (.le (.a (.s (.v 0) (.v 1)) (.mn (.v 1) (.v 0))) (.c 1000))):=L.run _ 2 rfl _ _
theorem o267:LH [a0] [] (.im (.le (.v 0) (.c 40)) (.lt (.v 0) (.c 500))):=L.run _ 1 rfl _ _
theorem o286:(a0=a1)->(a1<=a2)->a0<=a2:=L.run (.im (.eq (.v 0) (.v 1)) (.im (.le (.v 1) (.v 2)) (.le (.v 0) (.v 2)))) 3 rfl [a0,a1,a2] []
theorem o287:0<=64:=L.run (.le (.c 0) (.c 64)) 0 rfl [] []
theorem o288:(a0 < 62)->(a0+1)<=64:=L.run (.im (.lt (.v 0) (.c 62)) (.le (.a (.v 0) (.c 1)) (.c 64))) 1 rfl [a0] []
theorem o289:(a0=a1)->(a2=a3)->((a1+a3)<=a4)->(a0+a2)<=a4:=L.run (.im (.eq (.v 0) (.v 1)) (.im (.eq (.v 2) (.v 3)) (.im (.le (.a (.v 1) (.v 3)) (.v 4)) (.le (.a (.v 0) (.v 2)) (.v 4))))) 5 rfl [a0,a1,a2,a3,a4] []
theorem o290:((a0+200) < a1)->(a2<=60)->(a3=a2)->((a0+1)+(min a4 a3)) < a1:=L.run (.im (.lt (.a (.v 0) (.c 200)) (.v 1)) (.im (.le (.v 2) (.c 60)) (.im (.eq (.v 3) (.v 2)) (.lt (.a (.a (.v 0) (.c 1)) (.mn (.v 4) (.v 3))) (.v 1))))) 5 rfl [a0,a1,a2,a3,a4] []
theorem o291:((a0+200) < a1)->(a0+1) < a1:=L.run (.im (.lt (.a (.v 0) (.c 200)) (.v 1)) (.lt (.a (.v 0) (.c 1)) (.v 1))) 2 rfl [a0,a1] []
theorem o292:((a0+200) < a1)->(a2<=60)->(a3=a2)->(a0+(min a3 a4)) < a1:=L.run (.im (.lt (.a (.v 0) (.c 200)) (.v 1)) (.im (.le (.v 2) (.c 60)) (.im (.eq (.v 3) (.v 2)) (.lt (.a (.v 0) (.mn (.v 3) (.v 4))) (.v 1))))) 5 rfl [a0,a1,a2,a3,a4] []
theorem o294:(a0<=a1)->(min (a2-a3) (a0-a3))<=a1:=L.run (.im (.le (.v 0) (.v 1)) (.le (.mn (.s (.v 2) (.v 3)) (.s (.v 0) (.v 3))) (.v 1))) 4 rfl [a0,a1,a2,a3] []
theorem o297:(0<=z0)->¬ (z0 < 0):=L.run (.im (.zle (.c 0) (.v 0)) (.no (.zlt (.v 0) (.c 0)))) 1 rfl [] [z0]
theorem o298:(z0 < 0)->(z0+(a0:Int))<=(a0:Int):=L.run (.im (.zlt (.v 0) (.c 0)) (.zle (.a (.v 0) (.n (.v 0))) (.n (.v 0)))) 1 rfl [a0] [z0]
theorem o299:(¬ (z0 < 0))->0<=z0:=L.run (.im (.no (.zlt (.v 0) (.c 0))) (.zle (.c 0) (.v 0))) 1 rfl [] [z0]
theorem o302:((((a0:Int)-0)-1)+1)=(a0:Int):=L.run (.zeq (.a (.s (.s (.n (.v 0)) (.c 0)) (.c 1)) (.c 1)) (.n (.v 0))) 1 rfl [a0] []
theorem o303:(¬ (0 < (a0:Int)))->0=(a0:Int):=L.run (.im (.no (.zlt (.c 0) (.n (.v 0)))) (.zeq (.c 0) (.n (.v 0)))) 1 rfl [a0] []
theorem o304:((a0:Int)<=((16777216:Nat):Int))->a0<=16777216:=L.run (.im (.zle (.n (.v 0)) (.n (.c 16777216))) (.le (.v 0) (.c 16777216))) 1 rfl [a0] []
theorem o310:(3 < a0)->¬ (a0=1):=L.run (.im (.lt (.c 3) (.v 0)) (.no (.eq (.v 0) (.c 1)))) 1 rfl [a0] []
theorem o311:(((a0+(20*a1))+300) < a2)->(a0+200) < a2:=L.run (.im (.lt (.a (.a (.v 0) (.m 20 (.v 1))) (.c 300)) (.v 2)) (.lt (.a (.v 0) (.c 200)) (.v 2))) 3 rfl [a0,a1,a2] []
theorem o312:(a0 < a1)->(a2 < a0)->a2 < a1:=L.run (.im (.lt (.v 0) (.v 1)) (.im (.lt (.v 2) (.v 0)) (.lt (.v 2) (.v 1)))) 3 rfl [a0,a1,a2] []
theorem o315:((z0+(a0:Int))+1)=(z0+(((a0+1):Nat):Int)):=L.run (.zeq (.a (.a (.v 0) (.n (.v 0))) (.c 1)) (.a (.v 0) (.n (.a (.v 0) (.c 1))))) 1 rfl [a0] [z0]
theorem o316:(((z0-z1)-(a0:Int))-1)=((z0-z1)-(((a0+1):Nat):Int)):=L.run (.zeq (.s (.s (.s (.v 0) (.v 1)) (.n (.v 0))) (.c 1)) (.s (.s (.v 0) (.v 1)) (.n (.a (.v 0) (.c 1))))) 2 rfl [a0] [z0,z1]
theorem o317:(((z0-z1)-1)+1)=(z0-z1):=L.run (.zeq (.a (.s (.s (.v 0) (.v 1)) (.c 1)) (.c 1)) (.s (.v 0) (.v 1))) 2 rfl [] [z0,z1]
theorem o318:(z0<=z1)->(¬ (z0 < z1))->0=(z1-z0):=L.run (.im (.zle (.v 0) (.v 1)) (.im (.no (.zlt (.v 0) (.v 1))) (.zeq (.c 0) (.s (.v 1) (.v 0))))) 2 rfl [] [z0,z1]
theorem o323:(z0<=((16777216:Nat):Int))->z0<=16777216:=L.run (.im (.zle (.v 0) (.n (.c 16777216))) (.zle (.v 0) (.c 16777216))) 1 rfl [] [z0]
theorem o324:(a0 < a1)->(a2+a0) < (a2+a1):=L.run (.im (.lt (.v 0) (.v 1)) (.lt (.a (.v 2) (.v 0)) (.a (.v 2) (.v 1)))) 3 rfl [a0,a1,a2] []
theorem o325:((a0+a1)=(a0+a2))->a1=a2:=L.run (.im (.eq (.a (.v 0) (.v 1)) (.a (.v 0) (.v 2))) (.eq (.v 1) (.v 2))) 3 rfl [a0,a1,a2] []
theorem o326:(a0=a1)->(a2<=a1)->(a0 < a2)->False:=L.run (.im (.eq (.v 0) (.v 1)) (.im (.le (.v 2) (.v 1)) (.im (.lt (.v 0) (.v 2)) .ff))) 3 rfl [a0,a1,a2] []
theorem o327:(a0<=a1)->((a1+1)-(a0+1)) < ((a1+1)-a0):=L.run (.im (.le (.v 0) (.v 1)) (.lt (.s (.a (.v 1) (.c 1)) (.a (.v 0) (.c 1))) (.s (.a (.v 1) (.c 1)) (.v 0)))) 2 rfl [a0,a1] []
theorem o328:(a0<=a1)->(a2<=a0)->(a3<=a2)->(a4=a3)->a4<=a1:=L.run (.im (.le (.v 0) (.v 1)) (.im (.le (.v 2) (.v 0)) (.im (.le (.v 3) (.v 2)) (.im (.eq (.v 4) (.v 3)) (.le (.v 4) (.v 1)))))) 5 rfl [a0,a1,a2,a3,a4] []
theorem o329:((a0+a1) < a0)->False:=L.run (.im (.lt (.a (.v 0) (.v 1)) (.v 0)) .ff) 2 rfl [a0,a1] []
theorem o330:(a0+(a1+1))=((a0+1)+a1):=L.run (.eq (.a (.v 0) (.a (.v 1) (.c 1))) (.a (.a (.v 0) (.c 1)) (.v 1))) 2 rfl [a0,a1] []
theorem o331:(a0<=a1)->(a1 < (a0+a2))->(a1-a0) < a2:=L.run (.im (.le (.v 0) (.v 1)) (.im (.lt (.v 1) (.a (.v 0) (.v 2))) (.lt (.s (.v 1) (.v 0)) (.v 2)))) 3 rfl [a0,a1,a2] []
theorem o332:(a0<=(a1+a2))->(a1<=(a3+1))->a0<=(a3+(a2+1)):=L.run (.im (.le (.v 0) (.a (.v 1) (.v 2))) (.im (.le (.v 1) (.a (.v 3) (.c 1))) (.le (.v 0) (.a (.v 3) (.a (.v 2) (.c 1)))))) 4 rfl [a0,a1,a2,a3] []
theorem o333:(a0<=a1)->(a2=a0)->a2<=a1:=L.run (.im (.le (.v 0) (.v 1)) (.im (.eq (.v 2) (.v 0)) (.le (.v 2) (.v 1)))) 3 rfl [a0,a1,a2] []
theorem o334:(min a0 a1)<=a1:=L.run (.le (.mn (.v 0) (.v 1)) (.v 1)) 2 rfl [a0,a1] []
theorem o335:((a0+a1)<=a2)->(a3<=(a0+a4))->(a4<=a1)->a3<=a2:=L.run (.im (.le (.a (.v 0) (.v 1)) (.v 2)) (.im (.le (.v 3) (.a (.v 0) (.v 4))) (.im (.le (.v 4) (.v 1)) (.le (.v 3) (.v 2))))) 5 rfl [a0,a1,a2,a3,a4] []
theorem o336:(a0=a1)->(a0<=a2)->a1<=(a2+1):=L.run (.im (.eq (.v 0) (.v 1)) (.im (.le (.v 0) (.v 2)) (.le (.v 1) (.a (.v 2) (.c 1))))) 3 rfl [a0,a1,a2] []
theorem o337:(a0 < a1)->(a2<=(a0+1))->a2<=a1:=L.run (.im (.lt (.v 0) (.v 1)) (.im (.le (.v 2) (.a (.v 0) (.c 1))) (.le (.v 2) (.v 1)))) 3 rfl [a0,a1,a2] []
theorem o338:(a0=a1)->a1=a0:=L.run (.im (.eq (.v 0) (.v 1)) (.eq (.v 1) (.v 0))) 2 rfl [a0,a1] []
theorem o339:(a0<=a1)->(a0=a2)->a2<=a1:=L.run (.im (.le (.v 0) (.v 1)) (.im (.eq (.v 0) (.v 2)) (.le (.v 2) (.v 1)))) 3 rfl [a0,a1,a2] []
theorem o340:((a0+a1) < 16777216)->(16777216<=a2)->(a0+a1)<=a2:=L.run (.im (.lt (.a (.v 0) (.v 1)) (.c 16777216)) (.im (.le (.c 16777216) (.v 2)) (.le (.a (.v 0) (.v 1)) (.v 2)))) 3 rfl [a0,a1,a2] []
theorem o341:((a0+a1) < a2)->(a3<=(a0+a1))->a3<=a2:=L.run (.im (.lt (.a (.v 0) (.v 1)) (.v 2)) (.im (.le (.v 3) (.a (.v 0) (.v 1))) (.le (.v 3) (.v 2)))) 4 rfl [a0,a1,a2,a3] []
theorem o342:(a0=a1)->a0<=a1:=L.run (.im (.eq (.v 0) (.v 1)) (.le (.v 0) (.v 1))) 2 rfl [a0,a1] []
theorem o343:(a0 < (min a1 a2))->a0 < a1:=L.run (.im (.lt (.v 0) (.mn (.v 1) (.v 2))) (.lt (.v 0) (.v 1))) 3 rfl [a0,a1,a2] []
theorem o344:(a0 < (min a1 a2))->a0 < a2:=L.run (.im (.lt (.v 0) (.mn (.v 1) (.v 2))) (.lt (.v 0) (.v 2))) 3 rfl [a0,a1,a2] []
theorem o346:(1000000007 < a0)->(a0 < 1000)->False:=L.run (.im (.lt (.c 1000000007) (.v 0)) (.im (.lt (.v 0) (.c 1000)) .ff)) 1 rfl [a0] []
theorem o347:(((a0+(20*(a1+1)))+300) < a2)->((a0+3)+200) < a2:=L.run (.im (.lt (.a (.a (.v 0) (.m 20 (.a (.v 1) (.c 1)))) (.c 300)) (.v 2)) (.lt (.a (.a (.v 0) (.c 3)) (.c 200)) (.v 2))) 3 rfl [a0,a1,a2] []
theorem o349:(((a0+(20*(a1+1)))+300) < a2)->(((a0+3)+(20*a1))+300) < a2:=L.run (.im (.lt (.a (.a (.v 0) (.m 20 (.a (.v 1) (.c 1)))) (.c 300)) (.v 2)) (.lt (.a (.a (.a (.v 0) (.c 3)) (.m 20 (.v 1))) (.c 300)) (.v 2))) 3 rfl [a0,a1,a2] []
theorem o350:(a0=a1)->(a1=a2)->(a3=a2)->(a4=a3)->(a5 < a0)->a5 < a4:=L.run (.im (.eq (.v 0) (.v 1)) (.im (.eq (.v 1) (.v 2)) (.im (.eq (.v 3) (.v 2)) (.im (.eq (.v 4) (.v 3)) (.im (.lt (.v 5) (.v 0)) (.lt (.v 5) (.v 4))))))) 6 rfl [a0,a1,a2,a3,a4,a5] []
theorem o351:(a0=a1)->(a1=a2)->(a3=a2)->(a4=a3)->(a5 < a0)->a5 < (min a4 a3):=L.run (.im (.eq (.v 0) (.v 1)) (.im (.eq (.v 1) (.v 2)) (.im (.eq (.v 3) (.v 2)) (.im (.eq (.v 4) (.v 3)) (.im (.lt (.v 5) (.v 0)) (.lt (.v 5) (.mn (.v 4) (.v 3)))))))) 6 rfl [a0,a1,a2,a3,a4,a5] []
theorem o352:(a0=a1)->(a1=a2)->(a3 < a0)->(a2<=a3)->False:=L.run (.im (.eq (.v 0) (.v 1)) (.im (.eq (.v 1) (.v 2)) (.im (.lt (.v 3) (.v 0)) (.im (.le (.v 2) (.v 3)) .ff)))) 4 rfl [a0,a1,a2,a3] []
end Mine.Internal
end
section
namespace Mine.Internal
variable {a0 a1 a2 a3 a4 a5:Nat} {z0 z1 z2:Int}
theorem u3:LH [a0,a1] [] (.im (.lt (.v 0) (.v 1)) (.lt (.s (.s (.v 1) (.c 1)) (.v 0)) (.v 1))):=L.run _ 2 rfl _ _
theorem u4:LH [a0,a1] [] (.im (.no (.lt (.v 0) (.v 1))) (.le (.v 1) (.v 0))):=L.run _ 2 rfl _ _
theorem u66:LH [a0,a1] [] (.im (.lt (.v 0) (.v 1)) (.an (.zlt (.c 0) (.a (.n (.v 0)) (.c 1))) (.zle (.a (.n (.v 0)) (.c 1)) (.n (.v 1))))):=L.run _ 2 rfl _ _
theorem u68:LH [] [z0] (.im (.zlt (.g (.v 0)) (.c 0)) (.im (.zlt (.v 0) (.c 0)) (.zeq (.g (.g (.v 0))) (.g (.v 0))))):=L.run _ 1 rfl _ _
theorem u70:LH [] [z0] (.zeq (.g (.g (.v 0))) (.v 0)):=L.run _ 1 rfl _ _
theorem u71:LH [] [z0] (.zeq (.g (.v 0)) (.g (.v 0))):=L.run _ 1 rfl _ _
theorem u72:LH [] [z0,z1] (.im (.zeq (.g (.v 0)) (.g (.v 1))) (.o (.zeq (.v 1) (.v 0)) (.zeq (.v 1) (.g (.v 0))))):=L.run _ 2 rfl _ _
theorem u73:LH [] [z0] (.im (.no (.zlt (.g (.v 0)) (.c 0))) (.im (.no (.zlt (.v 0) (.c 0))) (.zeq (.g (.v 0)) (.v 0)))):=L.run _ 1 rfl _ _
theorem u74:LH [] [z0,z1] (.im (.zeq (.g (.v 0)) (.v 1)) (.o (.zeq (.v 1) (.v 0)) (.zeq (.v 1) (.g (.v 0))))):=L.run _ 2 rfl _ _
theorem u75:LH [] [z0,z1] (.im (.zeq (.v 0) (.g (.v 1))) (.o (.zeq (.v 1) (.v 0)) (.zeq (.v 1) (.g (.v 0))))):=L.run _ 2 rfl _ _
theorem u76:LH [] [z0,z1] (.im (.zeq (.v 0) (.v 1)) (.o (.zeq (.v 1) (.v 0)) (.zeq (.v 1) (.g (.v 0))))):=L.run _ 2 rfl _ _
theorem u78:LH [] [z0,z1] (.im (.zeq (.v 0) (.g (.v 1))) (.zeq (.g (.v 0)) (.v 1))):=L.run _ 2 rfl _ _
theorem u79:LH [a0] [] (.eq (.a (.v 0) (.v 0)) (.m 2 (.v 0))):=L.run _ 1 rfl _ _
theorem u80:LH [a0] [z0] (.im (.zle (.g (.v 0)) (.n (.v 0))) (.im (.zlt (.v 0) (.c 0)) (.an (.zlt (.c 0) (.g (.v 0))) (.zle (.g (.v 0)) (.n (.v 0)))))):=L.run _ 1 rfl _ _
theorem u81:LH [a0] [] (.im (.le (.a (.m 2 (.v 0)) (.c 1)) (.m 2 (.v 0))) .ff):=L.run _ 1 rfl _ _
theorem u83:LH [a0] [z0] (.im (.no (.zeq (.v 0) (.c 0))) (.im (.zle (.v 0) (.n (.v 0))) (.im (.no (.zlt (.v 0) (.c 0))) (.an (.zlt (.c 0) (.v 0)) (.zle (.v 0) (.n (.v 0))))))):=L.run _ 1 rfl _ _
theorem u84:LH [a0,a1] [] (.im (.zeq (.a (.n (.v 0)) (.c 1)) (.a (.n (.v 1)) (.c 1))) (.eq (.v 0) (.v 1))):=L.run _ 2 rfl _ _
theorem u88:LH [a0,a1] [] (.im (.lt (.v 0) (.v 1)) (.zle (.a (.n (.v 0)) (.c 1)) (.n (.v 1)))):=L.run _ 2 rfl _ _
theorem u139:LH [a0,a1] [] (.im (.le (.v 0) (.v 1)) (.im (.le (.v 1) (.v 0)) (.eq (.v 0) (.v 1)))):=L.run _ 2 rfl _ _
theorem u177:LH [a0,a1,a2] [] (.im (.lt (.a (.v 0) (.a (.v 1) (.c 1))) (.v 2)) (.lt (.v 0) (.v 2))):=L.run _ 3 rfl _ _
theorem u179:LH [a0,a1,a2] [] (.im (.lt (.a (.v 0) (.a (.v 1) (.c 1))) (.v 2)) (.lt (.a (.a (.v 0) (.c 1)) (.v 1)) (.v 2))):=L.run _ 3 rfl _ _
end Mine.Internal
end
section
namespace Mine.Internal
variable {a0 a1 a2 a3:Nat} {z0 z1:Int}
theorem nab {z:Int} {n:Nat} (h0:0<=z) (h:z < n):z.natAbs < n:=by obtain ⟨m,rfl⟩:=Int.eq_ofNat_of_zero_le h0;exact Int.ofNat_lt.1 h
theorem v2:(max (z0+(a0:Int)) 0)=((((z0+(a0:Int))).toNat:Nat):Int):=(Int.ofNat_toNat _).symm
theorem v5:¬ (1 < 0):=by decide
theorem v11:(0<=z0)->((z0).toNat < a0)->((0<=z0)/\(z0 < (a0:Int))):=fun h h2=>⟨h,(Int.toNat_lt h).1 h2⟩
theorem v14:((z0).toNat < a0)->(a1=a0)->(z0).toNat < a1:=fun h e=>e ▸ h
theorem v27:(a0 < ((z0-z1)).toNat)->0 < ((z0-z1)-(a0:Int)):=fun h=>Int.sub_pos_of_lt (Int.lt_toNat.1 h)
theorem v28:((z0-z1)-((((z0-z1)).toNat:Nat):Int))<=0:=Int.sub_nonpos_of_le (Int.self_le_toNat _)
theorem v31:(0<=z0)->(z1<=16777216)->((z1-z0)).toNat<=16777216:=fun h1 h2=>Int.toNat_le.2 (Int.le_trans (Int.sub_le_self z1 h1) h2)
theorem v35:(¬ (1073741824<=(z0).natAbs))->(z0).natAbs < 1073741824:=fun h=>Nat.lt_of_not_le h
theorem v42:(0 < z0)->(z0<=(a0:Int))->((z0-1)).toNat < a0:=fun h1 h2=>(Int.toNat_lt (Int.sub_nonneg_of_le h1)).2 (Int.lt_of_lt_of_le (Int.sub_lt_self z0 (by decide)) h2)
theorem v43:(0 < z0)->(((((z0-1)).toNat:Nat):Int)+1)=z0:=fun h=>by rw [Int.toNat_of_nonneg (Int.sub_nonneg_of_le (show 1<=z0 from h))];exact Int.sub_add_cancel z0 1
theorem v50:((2+(a0:Int))).toNat=(a0+2):=Nat.add_comm 2 a0
theorem v51:(((a0:Int)+1)).toNat=(a0+1):=rfl
theorem v52:((a0+1) < a1)->(a1<=10)->¬ (1073741824<=(((a0:Int)+1)).natAbs):=fun h1 h2 h=>absurd (Nat.le_trans h (Nat.le_of_lt (Nat.lt_of_lt_of_le h1 h2))) (by decide)
theorem v53:(0<=z0)->(((z0).toNat:Nat):Int)=z0:=Int.toNat_of_nonneg
theorem v54:(2<=a0)->(z0 < ((a0:Int)-1))->((z0).toNat+1) < a0:=fun h1 h2=>Nat.add_lt_of_lt_sub ((Int.toNat_lt' (Nat.sub_pos_of_lt h1)).2 (by rw [Int.ofNat_sub (Nat.le_of_lt h1)];exact h2))
theorem v58:(0<=z0)->((((1+z0)).toNat:Nat):Int)=(1+z0):=fun h=>Int.toNat_of_nonneg (Int.add_nonneg (by decide) h)
theorem v59:(0<=z0)->((((z0*(1))).toNat:Nat):Int)=(z0*(1)):=fun h=>Int.toNat_of_nonneg (by rw [Int.mul_one];exact h)
theorem v60:((((z0*(0))).toNat:Nat):Int)=(z0*(0)):=by rw [Int.mul_zero];rfl
theorem v66:((a0:Int)=(z0*(0)))->a0=0:=fun e=>Int.ofNat.inj (e.trans (Int.mul_zero _))
theorem v67:(a0 < 1000)->¬ (4611686018427387904<=(((a0:Int)+1)).natAbs):=fun h q=>absurd (Nat.le_trans q h) (by decide)
theorem v68:(a0<=10)->((a1+((a2+1)*10)) < 500)->(a1+a0) < 1000:=fun h1 h2=>by rw [Nat.succ_mul] at h2;exact Nat.lt_of_le_of_lt (Nat.add_le_add_left (Nat.le_trans h1 (Nat.le_add_left 10 _)) a1) (Nat.lt_trans h2 (by decide))
theorem v69:(a0<=10)->((a1+((a2+1)*10)) < 500)->(a3<=a0)->((a1+a3)+(a2*10)) < 500:=fun h1 h2 h3=>Nat.lt_of_le_of_lt (by rw [Nat.add_assoc,Nat.succ_mul,Nat.add_comm a3];exact Nat.add_le_add_left (Nat.add_le_add_left (Nat.le_trans h3 h1) _) _) h2
theorem v70:(a0 < 5)->(a0*10) < 500:=fun h=>Nat.lt_of_lt_of_le (Nat.mul_lt_mul_of_pos_right h (by decide)) (by decide)
theorem v80:(((a0:Int)+1)*(1))=((a0:Int)+1):=Int.mul_one _
theorem v81:(((a0:Int)+1)*(-1))=(-((a0:Int)+1)):=by rw [Int.mul_neg,Int.mul_one]
theorem v82:(a0<=1000)->(a1<=a0)->(a2 < a1)->(((a2:Int)+1)).natAbs < 4611686018427387904:=fun h1 h2 h3=>Nat.lt_of_le_of_lt (Nat.le_trans h3 (Nat.le_trans h2 h1)) (by decide)
theorem v85:(0<=z0)->(z0 < 2147531918)->(z0).natAbs < 4611686018427387904:=fun h0 h=>Nat.lt_trans (nab (n:=2147531918) h0 h) (by decide)
end Mine.Internal
end
section
namespace Mine.Internal
variable {a0 a1 a2 a3:Nat} {z0 z1 z2 z3:Int}
theorem y7:LH [a0] [] (.im (.lt (.c 0) (.v 0)) (.no (.zeq (.n (.v 0)) (.c 0)))):=L.run _ 1 rfl _ _
theorem y8:LH [a0] [] (.im (.le (.v 0) (.c 1000)) (.le (.v 0) (.c 16777216))):=L.run _ 1 rfl _ _
theorem y9:LH [a0] [] (.no (.zeq (.a (.n (.v 0)) (.c 1)) (.c 0))):=L.run _ 1 rfl _ _
end Mine.Internal
end
section
namespace Mine.Internal
variable {a0 a1 a2:Nat} {z0 z1:Int}
theorem w1:LH [a0,a1] [z0,z1] (.im (.le (.v 0) (.m 2 (.v 1))) (.im (.zle (.g (.n (.v 1))) (.v 0)) (.im (.zle (.s (.v 0) (.m (2) (.n (.s (.v 0) (.c 1))))) (.v 1)) (.zle (.g (.m (5) (.n (.v 1)))) (.v 1))))):=L.run _ 2 rfl _ _
theorem wa20:LH [a0,a1] [] (.im (.le (.v 0) (.c 40)) (.im (.eq (.v 1) (.m 2 (.v 0))) (.lt (.a (.c 0) (.v 1)) (.c 16777216)))):=L.run _ 2 rfl _ _
theorem wa21:LH [a0] [] (.im (.le (.v 0) (.c 40)) (.lt (.v 0) (.c 4611686018427387904))):=L.run _ 1 rfl _ _
theorem wa23:LH [a0] [] (.im (.le (.v 0) (.c 40)) (.le (.v 0) (.c 16777216))):=L.run _ 1 rfl _ _
theorem wa27:LH [a0,a1] [] (.im (.le (.v 0) (.c 40)) (.im (.eq (.v 1) (.v 0)) (.lt (.v 1) (.c 1000)))):=L.run _ 2 rfl _ _
theorem wa28:LH [a0,a1] [] (.im (.le (.v 0) (.c 40)) (.im (.eq (.v 1) (.v 0)) (.le (.v 1) (.c 40)))):=L.run _ 2 rfl _ _
theorem wa29:LH [a0] [] (.im (.le (.v 0) (.c 40)) (.no (.zlt (.c 40) (.n (.v 0))))):=L.run _ 1 rfl _ _
theorem wa30:LH [a0] [] (.im (.le (.v 0) (.c 40)) (.le (.a (.m 2 (.v 0)) (.c 1)) (.c 16777216))):=L.run _ 1 rfl _ _
end Mine.Internal
end
section
namespace Mine.Internal
variable {a0 a1 a2 a3 a4:Nat} {z0 z1 z2:Int}
theorem xo1:LH [a0] [] (.im (.le (.v 0) (.c 1000)) (.lt (.m 2 (.a (.v 0) (.c 1))) (.c 1000000))):=L.run _ 1 rfl _ _
theorem xo2:LH [] [] (.le (.c 9) (.c 20)):=L.run _ 0 rfl _ _
theorem xo3:LH [a0] [] (.im (.eq (.v 0) (.c 9)) (.lt (.c 1) (.v 0))):=L.run _ 1 rfl _ _
theorem xo4:LH [a0,a1,a2] [] (.im (.eq (.v 0) (.c 9)) (.im (.le (.v 1) (.c 7)) (.im (.lt (.v 2) (.v 1)) (.lt (.a (.v 2) (.c 2)) (.v 0))))):=L.run _ 3 rfl _ _
theorem xo5:LH [a0] [] (.im (.le (.v 0) (.c 7)) (.lt (.v 0) (.c 100))):=L.run _ 1 rfl _ _
theorem xo6:LH [a0,a1,a2] [z0] (.im (.zlt (.v 0) (.c 4)) (.im (.zeq (.n (.v 0)) (.a (.c 1) (.v 0))) (.im (.le (.v 1) (.c 7)) (.im (.eq (.v 2) (.v 1)) (.lt (.a (.v 2) (.s (.v 0) (.c 1))) (.c 100)))))):=L.run _ 3 rfl _ _
theorem xo7:LH [a0,a1,a2,a3] [z0] (.im (.zlt (.v 0) (.c 4)) (.im (.zeq (.n (.v 0)) (.a (.c 1) (.v 0))) (.im (.le (.v 1) (.c 7)) (.im (.eq (.v 2) (.v 1)) (.im (.le (.v 3) (.a (.v 2) (.s (.v 0) (.c 1)))) (.le (.v 3) (.c 10))))))):=L.run _ 4 rfl _ _
theorem xo8:LH [a0] [] (.im (.le (.v 0) (.c 7)) (.le (.v 0) (.c 1000))):=L.run _ 1 rfl _ _
theorem xo10:LH [a0,a1] [] (.im (.le (.v 0) (.c 1000)) (.im (.le (.v 1) (.m 2 (.a (.v 0) (.c 1)))) (.lt (.v 1) (.c 16777216)))):=L.run _ 2 rfl _ _
theorem xo61:LH [a0,a1] [] (.im (.le (.v 0) (.v 1)) (.zle (.n (.v 0)) (.n (.v 1)))):=L.run _ 2 rfl _ _
theorem xo66:LH [a0] [] (.im (.le (.v 0) (.c 10)) (.le (.m 2 (.v 0)) (.c 20))):=L.run _ 1 rfl _ _
theorem xo67:LH [a0,a1] [] (.im (.le (.v 0) (.v 1)) (.le (.v 0) (.v 1))):=L.run _ 2 rfl _ _
theorem xo68:LH [a0,a1,a2] [] (.im (.le (.v 0) (.c 20)) (.im (.le (.v 1) (.v 2)) (.le (.a (.s (.v 0) (.v 2)) (.a (.mn (.v 1) (.v 0)) (.c 1))) (.c 21)))):=L.run _ 3 rfl _ _
theorem xo69:LH [a0] [] (.im (.le (.v 0) (.c 21)) (.le (.v 0) (.c 16777216))):=L.run _ 1 rfl _ _
theorem xo70:LH [a0,a1] [] (.im (.le (.v 0) (.c 10)) (.im (.eq (.v 1) (.v 0)) (.lt (.v 1) (.c 1000)))):=L.run _ 2 rfl _ _
theorem xo71:LH [a0,a1,a2] [] (.im (.le (.v 0) (.v 1)) (.im (.le (.v 1) (.v 2)) (.le (.v 0) (.v 2)))):=L.run _ 3 rfl _ _
theorem xo72:LH [a0,a1,a2] [] (.im (.le (.v 0) (.c 20)) (.le (.s (.mn (.v 1) (.v 0)) (.v 2)) (.c 16777216))):=L.run _ 3 rfl _ _
theorem xo73:LH [a0,a1] [] (.im (.le (.v 0) (.c 20)) (.le (.a (.s (.v 0) (.v 1)) (.c 1)) (.c 16777216))):=L.run _ 2 rfl _ _
theorem xo74:LH [a0,a1,a2] [] (.im (.le (.v 0) (.c 20)) (.le (.a (.s (.v 0) (.v 1)) (.a (.c 1) (.mn (.v 2) (.v 0)))) (.c 16777216))):=L.run _ 3 rfl _ _
end Mine.Internal
end
section
namespace Mine.Internal
end Mine.Internal
end
section
namespace Mine.Internal
variable {a0 a1 a2 a3 a4 a5:Nat} {z0 z1 z2 z3:Int}
theorem xp1:LH [a0,a1] [] (.im (.lt (.v 0) (.a (.v 1) (.c 2))) (.im (.no (.lt (.v 0) (.v 1))) (.im (.no (.eq (.v 0) (.v 1))) (.eq (.a (.v 1) (.c 1)) (.v 0))))):=L.run _ 2 rfl _ _
theorem xp2:LH [a0,a1] [] (.im (.le (.s (.v 0) (.c 1)) (.v 1)) (.le (.v 0) (.a (.v 1) (.c 1)))):=L.run _ 2 rfl _ _
theorem xp3:LH [a0,a1] [] (.im (.le (.v 0) (.v 1)) (.le (.v 0) (.a (.v 1) (.c 1)))):=L.run _ 2 rfl _ _
theorem xp4:LH [a0,a1] [] (.im (.no (.lt (.v 0) (.v 1))) (.le (.v 1) (.a (.v 0) (.c 1)))):=L.run _ 2 rfl _ _
theorem xp5:LH [a0,a1] [] (.im (.lt (.a (.v 0) (.c 1)) (.v 1)) (.lt (.v 0) (.v 1))):=L.run _ 2 rfl _ _
theorem xp6:LH [a0,a1] [] (.eq (.a (.v 0) (.a (.a (.v 1) (.c 1)) (.c 1))) (.a (.a (.v 0) (.v 1)) (.c 2))):=L.run _ 2 rfl _ _
theorem xp7:LH [a0] [] (.im (.le (.v 0) (.c 0)) (.eq (.v 0) (.c 0))):=L.run _ 1 rfl _ _
theorem xp8:LH [a0,a1] [] (.im (.eq (.a (.v 0) (.c 1)) (.v 1)) (.lt (.v 0) (.v 1))):=L.run _ 2 rfl _ _
theorem xp9:LH [a0,a1] [] (.im (.no (.lt (.v 0) (.v 1))) (.eq (.s (.a (.v 0) (.c 1)) (.v 1)) (.a (.s (.v 0) (.v 1)) (.c 1)))):=L.run _ 2 rfl _ _
theorem xp10:LH [] [z0,z1] (.im (.zeq (.g (.v 0)) (.v 1)) (.zeq (.v 0) (.g (.v 1)))):=L.run _ 2 rfl _ _
theorem xp11:LH [a0,a1] [] (.im (.le (.v 0) (.a (.v 1) (.c 1))) (.lt (.v 0) (.a (.a (.v 1) (.c 1)) (.c 1)))):=L.run _ 2 rfl _ _
theorem xp12:LH [a0,a1,a2] [] (.im (.lt (.v 0) (.a (.v 1) (.v 2))) (.im (.no (.lt (.v 0) (.v 1))) (.lt (.s (.v 0) (.v 1)) (.v 2)))):=L.run _ 3 rfl _ _
theorem xp13:LH [a0,a1] [] (.im (.no (.lt (.a (.v 0) (.c 1)) (.v 1))) (.no (.lt (.a (.v 0) (.c 1)) (.v 1)))):=L.run _ 2 rfl _ _
theorem xp14:LH [a0,a1] [] (.im (.no (.lt (.v 0) (.v 1))) (.le (.v 1) (.v 0))):=L.run _ 2 rfl _ _
theorem xp15:LH [a0,a1] [] (.le (.a (.v 0) (.a (.v 1) (.c 1))) (.a (.a (.v 0) (.v 1)) (.c 1))):=L.run _ 2 rfl _ _
theorem xp16:LH [a0] [] (.le (.v 0) (.a (.v 0) (.c 1))):=L.run _ 1 rfl _ _
theorem xp17:LH [] [z0,z1] (.im (.zeq (.g (.g (.v 0))) (.v 1)) (.zeq (.v 0) (.v 1))):=L.run _ 2 rfl _ _
theorem xp18:LH [a0,a1] [] (.eq (.a (.v 0) (.a (.v 1) (.c 1))) (.a (.a (.v 0) (.v 1)) (.c 1))):=L.run _ 2 rfl _ _
theorem xp19:LH [a0,a1] [] (.im (.le (.v 0) (.a (.v 1) (.c 2))) (.lt (.v 0) (.a (.a (.a (.v 1) (.c 1)) (.c 1)) (.c 1)))):=L.run _ 2 rfl _ _
theorem xp20:LH [a0] [] (.le (.a (.v 0) (.c 1)) (.a (.v 0) (.c 1))):=L.run _ 1 rfl _ _
theorem xp21:LH [a0,a1] [] (.im (.no (.lt (.a (.v 0) (.c 1)) (.v 1))) (.im (.no (.eq (.a (.v 0) (.c 1)) (.v 1))) (.no (.lt (.v 0) (.v 1))))):=L.run _ 2 rfl _ _
theorem xp23:LH [a0] [] (.le (.c 0) (.a (.v 0) (.c 2))):=L.run _ 1 rfl _ _
theorem xp24:LH [a0,a1,a2,a3] [] (.im (.le (.v 0) (.v 1)) (.im (.le (.m 2 (.v 1)) (.a (.v 2) (.c 2))) (.im (.eq (.v 3) (.c 1)) (.le (.m 2 (.v 0)) (.a (.a (.v 2) (.v 3)) (.c 1)))))):=L.run _ 4 rfl _ _
theorem xp25:LH [a0,a1,a2] [] (.im (.eq (.v 0) (.a (.v 1) (.v 2))) (.no (.lt (.v 0) (.v 1)))):=L.run _ 3 rfl _ _
theorem xp26:LH [] [z0] (.im (.no (.zeq (.v 0) (.c 0))) (.im (.zeq (.g (.v 0)) (.v 0)) .ff)):=L.run _ 1 rfl _ _
theorem xp27:LH [a0,a1] [] (.eq (.s (.a (.a (.v 0) (.v 1)) (.c 1)) (.a (.v 0) (.a (.v 1) (.c 1)))) (.c 0)):=L.run _ 2 rfl _ _
theorem xp28:LH [a0] [] (.im (.no (.lt (.c 0) (.v 0))) (.eq (.v 0) (.c 0))):=L.run _ 1 rfl _ _
theorem xp29:LH [a0] [] (.le (.c 1) (.a (.v 0) (.c 2))):=L.run _ 1 rfl _ _
theorem xp30:LH [a0,a1,a2,a3] [] (.im (.eq (.v 0) (.a (.v 1) (.v 2))) (.im (.lt (.v 3) (.v 2)) (.lt (.a (.v 1) (.v 3)) (.v 0)))):=L.run _ 4 rfl _ _
theorem xp31:LH [a0,a1] [] (.im (.lt (.a (.v 0) (.c 1)) (.v 1)) (.im (.le (.v 1) (.a (.v 0) (.c 1))) .ff)):=L.run _ 2 rfl _ _
theorem xp32:LH [a0,a1,a2] [] (.im (.eq (.v 0) (.a (.a (.v 1) (.v 2)) (.c 2))) (.le (.v 0) (.a (.a (.v 1) (.v 2)) (.c 2)))):=L.run _ 3 rfl _ _
theorem xp33:LH [a0,a1] [] (.le (.v 0) (.a (.v 0) (.v 1))):=L.run _ 2 rfl _ _
theorem xp34:LH [a0] [] (.le (.a (.v 0) (.c 1)) (.a (.v 0) (.c 2))):=L.run _ 1 rfl _ _
theorem xp35:LH [a0,a1,a2,a3] [] (.im (.eq (.v 0) (.a (.v 1) (.v 2))) (.im (.lt (.v 3) (.v 1)) (.lt (.v 3) (.a (.v 0) (.c 1))))):=L.run _ 4 rfl _ _
theorem xp36:LH [a0,a1,a2,a3] [] (.im (.le (.a (.v 0) (.v 1)) (.a (.v 2) (.c 1))) (.im (.eq (.v 0) (.a (.v 3) (.c 1))) (.le (.v 3) (.v 2)))):=L.run _ 4 rfl _ _
theorem xp37:LH [a0] [] (.im (.le (.a (.v 0) (.c 1)) (.v 0)) .ff):=L.run _ 1 rfl _ _
theorem xp38:LH [a0] [] (.le (.a (.v 0) (.c 2)) (.a (.v 0) (.c 2))):=L.run _ 1 rfl _ _
theorem xp39:LH [] [z0] (.im (.no (.zeq (.v 0) (.c 0))) (.no (.zeq (.c 0) (.g (.v 0))))):=L.run _ 1 rfl _ _
theorem xp40:LH [a0,a1,a2,a3] [] (.im (.eq (.v 0) (.a (.v 1) (.v 2))) (.im (.eq (.v 3) (.v 1)) (.lt (.v 3) (.a (.v 0) (.c 1))))):=L.run _ 4 rfl _ _
theorem xp41:LH [a0,a1,a2,a3,a4] [] (.im (.eq (.v 0) (.a (.v 1) (.v 2))) (.im (.eq (.v 3) (.a (.v 2) (.v 1))) (.im (.lt (.v 4) (.v 3)) (.lt (.s (.v 4) (.v 2)) (.v 0))))):=L.run _ 5 rfl _ _
theorem xp42:LH [a0,a1,a2,a3] [] (.im (.eq (.v 0) (.a (.a (.v 1) (.v 2)) (.c 2))) (.im (.le (.v 3) (.a (.a (.v 1) (.v 2)) (.c 2))) (.lt (.v 3) (.a (.v 0) (.c 1))))):=L.run _ 4 rfl _ _
theorem xp43:LH [] [z0] (.im (.no (.zeq (.v 0) (.c 0))) (.no (.zeq (.c 0) (.v 0)))):=L.run _ 1 rfl _ _
theorem xp44:LH [a0,a1,a2,a3] [] (.im (.eq (.v 0) (.a (.v 1) (.v 2))) (.im (.lt (.v 3) (.v 0)) (.im (.no (.lt (.v 3) (.v 1))) (.lt (.s (.v 3) (.v 1)) (.v 2))))):=L.run _ 4 rfl _ _
theorem xp45:LH [a0,a1] [] (.le (.v 0) (.a (.a (.v 0) (.v 1)) (.c 2))):=L.run _ 2 rfl _ _
theorem xp46:LH [a0,a1] [] (.im (.le (.v 0) (.a (.v 1) (.c 1))) (.lt (.s (.v 0) (.c 1)) (.a (.v 1) (.c 1)))):=L.run _ 2 rfl _ _
theorem xp47:LH [a0,a1,a2,a3,a4,a5] [] (.im (.le (.v 0) (.a (.v 1) (.c 1))) (.im (.eq (.v 2) (.a (.v 3) (.c 1))) (.im (.eq (.v 4) (.c 1)) (.im (.le (.m 2 (.v 1)) (.a (.v 3) (.v 5))) (.le (.m 2 (.v 0)) (.a (.a (.v 2) (.v 4)) (.v 5))))))):=L.run _ 6 rfl _ _
theorem xp48:LH [a0,a1] [] (.im (.no (.lt (.v 0) (.v 1))) (.im (.no (.eq (.v 0) (.v 1))) (.no (.lt (.s (.v 0) (.c 1)) (.v 1))))):=L.run _ 2 rfl _ _
theorem xp49:LH [a0,a1] [] (.le (.a (.v 0) (.c 1)) (.a (.a (.v 0) (.v 1)) (.c 2))):=L.run _ 2 rfl _ _
theorem xp50:LH [a0,a1,a2] [] (.im (.no (.lt (.a (.v 0) (.c 1)) (.v 1))) (.im (.lt (.v 0) (.v 1)) (.eq (.a (.a (.a (.v 2) (.v 0)) (.c 1)) (.c 1)) (.a (.a (.v 2) (.v 1)) (.c 1))))):=L.run _ 3 rfl _ _
theorem xp51:LH [a0,a1] [] (.le (.a (.a (.v 0) (.v 1)) (.c 2)) (.a (.a (.v 0) (.v 1)) (.c 2))):=L.run _ 2 rfl _ _
theorem xp52:LH [a0,a1] [] (.im (.lt (.v 0) (.v 1)) (.eq (.a (.s (.a (.v 0) (.c 1)) (.v 1)) (.c 1)) (.c 1))):=L.run _ 2 rfl _ _
theorem xp53:LH [a0,a1] [] (.im (.no (.lt (.v 0) (.v 1))) (.im (.no (.eq (.v 0) (.v 1))) (.eq (.a (.s (.v 0) (.c 1)) (.c 1)) (.v 0)))):=L.run _ 2 rfl _ _
theorem xp54:LH [a0,a1] [] (.im (.no (.le (.v 0) (.a (.v 1) (.c 1)))) (.lt (.a (.v 1) (.c 1)) (.v 0))):=L.run _ 2 rfl _ _
theorem xp55:LH [a0,a1] [] (.le (.a (.a (.v 0) (.v 1)) (.c 1)) (.a (.a (.v 0) (.v 1)) (.c 2))):=L.run _ 2 rfl _ _
theorem xp56:LH [a0,a1] [] (.im (.no (.lt (.v 0) (.v 1))) (.eq (.a (.a (.s (.v 0) (.v 1)) (.c 1)) (.c 1)) (.a (.s (.a (.v 0) (.c 1)) (.v 1)) (.c 1)))):=L.run _ 2 rfl _ _
theorem xp58:LH [a0,a1,a2,a3,a4] [] (.im (.eq (.v 0) (.a (.v 1) (.v 2))) (.im (.eq (.v 3) (.a (.a (.v 1) (.v 2)) (.c 2))) (.im (.lt (.a (.v 0) (.c 1)) (.v 4)) (.im (.le (.v 4) (.v 3)) (.eq (.v 4) (.a (.a (.v 1) (.v 2)) (.c 2))))))):=L.run _ 5 rfl _ _
theorem xp59:LH [a0,a1] [] (.no (.lt (.a (.v 0) (.s (.v 1) (.c 1))) (.v 0))):=L.run _ 2 rfl _ _
theorem xp60:LH [a0,a1,a2] [] (.im (.eq (.v 0) (.a (.v 1) (.v 2))) (.le (.v 1) (.a (.v 0) (.c 1)))):=L.run _ 3 rfl _ _
theorem xp61:LH [a0,a1] [] (.im (.le (.c 1) (.v 0)) (.eq (.a (.s (.a (.v 1) (.s (.v 0) (.c 1))) (.v 1)) (.c 1)) (.v 0))):=L.run _ 2 rfl _ _
theorem xp62:LH [a0,a1,a2] [] (.im (.eq (.v 0) (.a (.v 1) (.v 2))) (.lt (.v 1) (.a (.v 0) (.c 1)))):=L.run _ 3 rfl _ _
theorem xp63:LH [a0] [] (.no (.lt (.v 0) (.v 0))):=L.run _ 1 rfl _ _
theorem xp65:LH [a0,a1,a2] [] (.im (.le (.v 0) (.a (.a (.v 1) (.v 2)) (.c 1))) (.im (.no (.le (.v 0) (.a (.v 1) (.c 1)))) (.im (.no (.eq (.v 0) (.a (.a (.v 1) (.v 2)) (.c 1)))) (.lt (.s (.s (.v 0) (.v 1)) (.c 1)) (.v 2))))):=L.run _ 3 rfl _ _
theorem xp66:LH [a0,a1] [] (.im (.no (.le (.v 0) (.a (.v 1) (.c 1)))) (.eq (.a (.a (.v 1) (.s (.s (.v 0) (.v 1)) (.c 1))) (.c 1)) (.v 0))):=L.run _ 2 rfl _ _
theorem xp67:LH [a0,a1,a2] [] (.im (.lt (.v 0) (.a (.a (.v 1) (.v 2)) (.c 3))) (.im (.no (.an (.le (.c 1) (.v 0)) (.le (.v 0) (.a (.a (.v 1) (.v 2)) (.c 1))))) (.o (.eq (.v 0) (.c 0)) (.eq (.v 0) (.a (.a (.v 1) (.v 2)) (.c 2)))))):=L.run _ 3 rfl _ _
theorem xp68:LH [a0,a1,a2] [] (.im (.eq (.v 0) (.a (.v 1) (.v 2))) (.le (.a (.v 1) (.c 1)) (.a (.v 0) (.c 1)))):=L.run _ 3 rfl _ _
theorem xp69:LH [a0,a1] [] (.le (.c 1) (.a (.a (.v 0) (.v 1)) (.c 1))):=L.run _ 2 rfl _ _
theorem xp70:LH [a0,a1,a2] [] (.im (.eq (.m 2 (.v 0)) (.a (.a (.a (.v 1) (.a (.v 2) (.c 1))) (.c 1)) (.c 1))) (.eq (.m 2 (.v 0)) (.a (.a (.v 1) (.v 2)) (.c 3)))):=L.run _ 3 rfl _ _
theorem xp71:LH [a0,a1,a2] [] (.eq (.a (.v 0) (.a (.v 1) (.a (.v 2) (.c 1)))) (.a (.a (.a (.v 0) (.v 1)) (.v 2)) (.c 1))):=L.run _ 3 rfl _ _
theorem xp72:LH [] [z0] (.im (.no (.zeq (.v 0) (.c 0))) (.im (.zeq (.c 0) (.g (.v 0))) .ff)):=L.run _ 1 rfl _ _
theorem xp73:LH [a0,a1,a2,a3] [] (.im (.le (.v 0) (.a (.v 1) (.c 1))) (.im (.eq (.m 2 (.v 0)) (.a (.a (.v 2) (.v 3)) (.c 3))) (.im (.le (.m 2 (.v 1)) (.a (.a (.v 3) (.v 2)) (.c 1))) (.eq (.m 2 (.v 1)) (.a (.a (.v 2) (.v 3)) (.c 1)))))):=L.run _ 4 rfl _ _
theorem xp74:LH [a0,a1,a2] [] (.im (.eq (.m 2 (.v 0)) (.a (.v 1) (.c 3))) (.im (.eq (.m 2 (.v 2)) (.a (.v 1) (.c 1))) (.eq (.v 0) (.a (.v 2) (.c 1))))):=L.run _ 3 rfl _ _
theorem xp75:LH [] [z0,z1] (.im (.zeq (.g (.v 0)) (.g (.v 1))) (.zeq (.v 0) (.v 1))):=L.run _ 2 rfl _ _
theorem xp76:LH [a0,a1,a2,a3,a4] [] (.im (.le (.v 0) (.a (.v 1) (.c 1))) (.im (.le (.m 2 (.v 1)) (.a (.a (.a (.a (.v 2) (.v 3)) (.v 4)) (.c 2)) (.c 1))) (.im (.eq (.m 2 (.v 0)) (.a (.a (.a (.v 2) (.a (.v 3) (.c 1))) (.a (.v 4) (.c 1))) (.c 3))) (.eq (.m 2 (.v 1)) (.a (.a (.a (.v 2) (.v 3)) (.v 4)) (.c 3)))))):=L.run _ 5 rfl _ _
theorem xp77:LH [a0] [] (.eq (.v 0) (.v 0)):=L.run _ 1 rfl _ _
theorem xp78:LH [a0] [] (.eq (.a (.v 0) (.c 1)) (.a (.v 0) (.c 1))):=L.run _ 1 rfl _ _
theorem xp79:LH [a0,a1] [] (.im (.lt (.v 0) (.v 1)) (.im (.no (.le (.v 0) (.v 1))) (.eq (.s (.v 0) (.c 1)) (.v 0)))):=L.run _ 2 rfl _ _
theorem xp80:LH [a0,a1] [] (.im (.lt (.v 0) (.v 1)) (.im (.no (.le (.a (.v 0) (.c 1)) (.v 1))) (.eq (.s (.a (.v 0) (.c 1)) (.c 1)) (.a (.v 0) (.c 1))))):=L.run _ 2 rfl _ _
theorem xp81:LH [a0,a1] [] (.im (.no (.lt (.v 0) (.v 1))) (.im (.le (.a (.v 0) (.c 1)) (.v 1)) (.eq (.a (.v 0) (.c 1)) (.v 0)))):=L.run _ 2 rfl _ _
theorem xp82:LH [a0,a1] [] (.im (.no (.lt (.v 0) (.v 1))) (.im (.le (.a (.a (.v 0) (.c 1)) (.c 1)) (.v 1)) (.eq (.a (.a (.v 0) (.c 1)) (.c 1)) (.a (.v 0) (.c 1))))):=L.run _ 2 rfl _ _
theorem xp83:LH [] [z0] (.im (.zlt (.v 0) (.c 0)) (.no (.zlt (.g (.v 0)) (.c 0)))):=L.run _ 1 rfl _ _
theorem xp84:LH [a0] [] (.eq (.s (.a (.a (.v 0) (.c 1)) (.c 1)) (.c 1)) (.a (.v 0) (.c 1))):=L.run _ 1 rfl _ _
theorem xp85:LH [] [z0] (.im (.no (.zeq (.v 0) (.c 0))) (.im (.no (.zlt (.v 0) (.c 0))) (.zlt (.g (.v 0)) (.c 0)))):=L.run _ 1 rfl _ _
theorem xp86:LH [a0] [] (.eq (.s (.a (.v 0) (.c 1)) (.c 1)) (.v 0)):=L.run _ 1 rfl _ _
theorem xp87:LH [a0,a1,a2] [] (.im (.eq (.a (.v 0) (.v 1)) (.v 2)) (.eq (.a (.v 0) (.a (.v 1) (.c 1))) (.a (.v 2) (.c 1)))):=L.run _ 3 rfl _ _
theorem xp88:LH [a0,a1,a2,a3] [] (.im (.eq (.a (.v 0) (.v 1)) (.v 2)) (.im (.no (.eq (.v 3) (.v 0))) (.im (.le (.v 3) (.v 0)) (.lt (.v 3) (.v 2))))):=L.run _ 4 rfl _ _
theorem xp89:LH [a0,a1,a2,a3,a4] [] (.im (.eq (.a (.v 0) (.v 1)) (.v 2)) (.im (.eq (.v 3) (.a (.v 2) (.c 1))) (.im (.lt (.v 4) (.v 3)) (.im (.no (.eq (.v 4) (.v 0))) (.lt (.s (.v 4) (.c 1)) (.v 2)))))):=L.run _ 5 rfl _ _
theorem xp90:LH [a0,a1] [] (.im (.no (.eq (.v 0) (.v 1))) (.im (.le (.v 0) (.v 1)) (.im (.no (.lt (.v 0) (.v 1))) (.eq (.a (.v 0) (.c 1)) (.v 0))))):=L.run _ 2 rfl _ _
theorem xp91:LH [a0,a1] [] (.im (.no (.le (.v 0) (.v 1))) (.im (.lt (.s (.v 0) (.c 1)) (.v 1)) (.eq (.s (.v 0) (.c 1)) (.v 0)))):=L.run _ 2 rfl _ _
theorem xp92:LH [a0,a1] [] (.im (.no (.le (.v 0) (.v 1))) (.eq (.a (.s (.v 0) (.c 1)) (.c 1)) (.v 0))):=L.run _ 2 rfl _ _
theorem xp93:LH [a0,a1,a2] [] (.im (.eq (.v 0) (.a (.v 1) (.c 1))) (.im (.le (.v 0) (.v 2)) (.le (.v 1) (.v 2)))):=L.run _ 3 rfl _ _
theorem xp94:LH [a0,a1,a2] [] (.im (.eq (.v 0) (.a (.v 1) (.c 1))) (.im (.le (.v 0) (.v 2)) (.le (.v 1) (.s (.v 2) (.c 1))))):=L.run _ 3 rfl _ _
theorem xp95:LH [a0,a1] [] (.im (.eq (.v 0) (.v 1)) (.im (.le (.a (.v 0) (.c 1)) (.v 1)) (.eq (.a (.v 0) (.c 1)) (.v 0)))):=L.run _ 2 rfl _ _
theorem xp96:LH [a0,a1] [] (.im (.eq (.v 0) (.v 1)) (.im (.le (.a (.v 0) (.c 1)) (.v 1)) (.eq (.a (.v 0) (.c 1)) (.s (.v 0) (.c 1))))):=L.run _ 2 rfl _ _
theorem xp97:LH [a0,a1] [] (.im (.eq (.v 0) (.v 1)) (.im (.no (.le (.v 0) (.v 1))) (.eq (.s (.a (.v 0) (.c 1)) (.c 1)) (.s (.v 0) (.c 1))))):=L.run _ 2 rfl _ _
theorem xp98:LH [a0,a1,a2] [] (.im (.eq (.v 0) (.a (.v 1) (.c 1))) (.im (.lt (.v 2) (.v 1)) (.lt (.v 2) (.a (.v 0) (.c 1))))):=L.run _ 3 rfl _ _
theorem xp99:LH [a0,a1,a2] [] (.im (.eq (.v 0) (.a (.v 1) (.c 1))) (.im (.lt (.v 2) (.v 1)) (.lt (.a (.v 2) (.c 1)) (.a (.v 0) (.c 1))))):=L.run _ 3 rfl _ _
theorem xp100:LH [a0,a1] [] (.im (.le (.s (.a (.v 0) (.c 2)) (.c 1)) (.v 1)) (.le (.a (.v 0) (.c 1)) (.v 1))):=L.run _ 2 rfl _ _
theorem xp101:LH [a0,a1] [] (.im (.le (.a (.v 0) (.c 2)) (.v 1)) (.le (.a (.v 0) (.c 1)) (.v 1))):=L.run _ 2 rfl _ _
theorem xp102:LH [] [z0] (.im (.no (.zeq (.v 0) (.c 0))) (.no (.zeq (.g (.v 0)) (.c 0)))):=L.run _ 1 rfl _ _
theorem xp103:LH [] [z0] (.im (.zlt (.v 0) (.c 0)) (.zlt (.c 0) (.g (.v 0)))):=L.run _ 1 rfl _ _
theorem xp104:LH [] [z0] (.im (.no (.zeq (.v 0) (.c 0))) (.im (.no (.zlt (.v 0) (.c 0))) (.zlt (.c 0) (.v 0)))):=L.run _ 1 rfl _ _
theorem xp105:LH [a0,a1,a2] [] (.im (.eq (.v 0) (.a (.v 1) (.v 2))) (.le (.v 1) (.v 0))):=L.run _ 3 rfl _ _
theorem xp106:LH [a0,a1] [] (.im (.le (.m 2 (.v 0)) (.a (.a (.m 2 (.v 1)) (.c 1)) (.c 1))) (.im (.le (.a (.v 1) (.c 1)) (.v 0)) (.eq (.m 2 (.v 0)) (.a (.a (.m 2 (.v 1)) (.c 1)) (.c 1))))):=L.run _ 2 rfl _ _
theorem xp107:LH [] [z0,z1] (.im (.zeq (.v 0) (.v 1)) (.zeq (.v 0) (.v 1))):=L.run _ 2 rfl _ _
theorem xp108:LH [a0,a1] [] (.im (.eq (.m 2 (.v 0)) (.a (.a (.m 2 (.v 1)) (.c 1)) (.c 1))) (.eq (.v 0) (.a (.v 1) (.c 1)))):=L.run _ 2 rfl _ _
theorem xp109:LH [a0] [] (.no (.zeq (.a (.n (.v 0)) (.c 1)) (.c 0))):=L.run _ 1 rfl _ _
theorem xp110:LH [a0] [] (.no (.zeq (.g (.a (.n (.v 0)) (.c 1))) (.c 0))):=L.run _ 1 rfl _ _
theorem xp111:LH [] [z0] (.im (.zlt (.c 0) (.v 0)) (.no (.zlt (.c 0) (.g (.v 0))))):=L.run _ 1 rfl _ _
theorem xp112:LH [] [z0] (.im (.no (.zeq (.v 0) (.c 0))) (.im (.no (.zlt (.c 0) (.v 0))) (.zlt (.c 0) (.g (.v 0))))):=L.run _ 1 rfl _ _
theorem xp113:LH [a0,a1] [] (.im (.zeq (.a (.n (.v 0)) (.c 1)) (.a (.n (.v 1)) (.c 1))) (.eq (.v 0) (.v 1))):=L.run _ 2 rfl _ _
theorem xp115:LH [] [z0] (.im (.o (.zeq (.v 0) (.c 1)) (.zeq (.v 0) (.c (-1)))) (.o (.zeq (.g (.v 0)) (.c 1)) (.zeq (.g (.v 0)) (.c (-1))))):=L.run _ 1 rfl _ _
theorem xp116:LH [] [z0] (.im (.zeq (.g (.v 0)) (.c 0)) (.zeq (.v 0) (.c 0))):=L.run _ 1 rfl _ _
theorem xp117:LH [] [z0,z1,z2,z3] (.im (.zeq (.v 0) (.v 1)) (.im (.zeq (.v 0) (.v 2)) (.im (.zeq (.v 1) (.v 3)) (.zeq (.v 2) (.v 3))))):=L.run _ 4 rfl _ _
theorem xp118:LH [] [z0] (.im (.o (.zeq (.v 0) (.c 1)) (.zeq (.v 0) (.c (-1)))) (.o (.zeq (.v 0) (.c 1)) (.zeq (.v 0) (.c (-1))))):=L.run _ 1 rfl _ _
theorem xp119:LH [] [z0,z1] (.im (.zeq (.v 0) (.g (.v 1))) (.im (.zlt (.c 0) (.v 0)) (.im (.zlt (.c 0) (.v 1)) .ff))):=L.run _ 2 rfl _ _
theorem xp120:LH [] [z0,z1,z2,z3] (.im (.zeq (.v 0) (.v 1)) (.im (.zeq (.v 0) (.v 2)) (.im (.zeq (.v 1) (.g (.v 3))) (.im (.zlt (.c 0) (.v 2)) (.im (.zlt (.c 0) (.v 3)) (.zeq (.v 2) (.v 3))))))):=L.run _ 4 rfl _ _
theorem xp121:LH [a0] [z0,z1] (.im (.zeq (.a (.n (.v 0)) (.c 1)) (.g (.a (.n (.v 0)) (.c 1)))) (.zeq (.v 0) (.v 1))):=L.run _ 2 rfl _ _
theorem xp122:LH [] [z0,z1] (.im (.zeq (.v 0) (.g (.v 1))) (.zeq (.g (.v 0)) (.v 1))):=L.run _ 2 rfl _ _
theorem xp123:LH [a0] [z0,z1] (.im (.zeq (.g (.a (.n (.v 0)) (.c 1))) (.a (.n (.v 0)) (.c 1))) (.zeq (.v 0) (.v 1))):=L.run _ 2 rfl _ _
theorem xp124:LH [] [z0,z1,z2,z3] (.im (.zeq (.v 0) (.v 1)) (.im (.zeq (.v 0) (.v 2)) (.im (.zeq (.v 1) (.g (.v 3))) (.im (.no (.zlt (.c 0) (.v 2))) (.im (.no (.zlt (.c 0) (.v 3))) (.zeq (.v 2) (.v 3))))))):=L.run _ 4 rfl _ _
theorem xp125:LH [] [z0,z1,z2,z3] (.im (.zeq (.v 0) (.v 1)) (.im (.zeq (.v 0) (.g (.v 2))) (.im (.zeq (.v 1) (.v 3)) (.im (.zlt (.c 0) (.v 2)) (.im (.zlt (.c 0) (.v 3)) (.zeq (.v 2) (.v 3))))))):=L.run _ 4 rfl _ _
theorem xp126:LH [a0,a1] [] (.im (.le (.v 0) (.a (.v 1) (.v 1))) (.im (.le (.a (.v 1) (.v 1)) (.v 0)) (.eq (.v 0) (.m 2 (.v 1))))):=L.run _ 2 rfl _ _
theorem xp127:LH [] [z0,z1,z2,z3] (.im (.zeq (.v 0) (.v 1)) (.im (.zeq (.v 0) (.g (.v 2))) (.im (.zeq (.v 1) (.v 3)) (.im (.no (.zlt (.c 0) (.v 2))) (.im (.no (.zlt (.c 0) (.v 3))) (.zeq (.v 2) (.v 3))))))):=L.run _ 4 rfl _ _
theorem xp128:LH [] [z0,z1,z2,z3] (.im (.zeq (.v 0) (.v 1)) (.im (.zeq (.v 0) (.g (.v 2))) (.im (.zeq (.v 1) (.g (.v 3))) (.zeq (.v 2) (.v 3))))):=L.run _ 4 rfl _ _
theorem xp129:LH [a0,a1] [] (.im (.le (.v 0) (.c 10)) (.im (.le (.v 1) (.v 0)) (.le (.v 1) (.c 10)))):=L.run _ 2 rfl _ _
theorem xp130:LH [a0,a1] [] (.im (.lt (.v 0) (.v 1)) (.zle (.a (.n (.v 0)) (.c 1)) (.n (.v 1)))):=L.run _ 2 rfl _ _
theorem xp131:LH [] [z0] (.im (.zeq (.v 0) (.c 0)) (.zeq (.g (.v 0)) (.c 0))):=L.run _ 1 rfl _ _
theorem xp132:LH [] [z0] (.im (.zlt (.c 0) (.v 0)) (.no (.zlt (.v 0) (.c 0)))):=L.run _ 1 rfl _ _
theorem xp133:LH [] [z0] (.im (.no (.zlt (.c 0) (.v 0))) (.im (.no (.zeq (.v 0) (.c 0))) (.zlt (.v 0) (.c 0)))):=L.run _ 1 rfl _ _
theorem xp134:LH [] [z0] (.im (.no (.zeq (.v 0) (.c 0))) (.im (.no (.zlt (.c 0) (.v 0))) (.zlt (.v 0) (.c 0)))):=L.run _ 1 rfl _ _
theorem xp135:LH [] [z0,z1] (.im (.zeq (.g (.v 0)) (.v 1)) (.zeq (.g (.v 1)) (.v 0))):=L.run _ 2 rfl _ _
theorem xp136:LH [] [z0,z1] (.im (.no (.zeq (.v 0) (.c 0))) (.im (.zeq (.g (.v 1)) (.v 0)) (.im (.zeq (.v 1) (.v 0)) .ff))):=L.run _ 2 rfl _ _
theorem xp137:LH [] [z0,z1] (.im (.no (.zeq (.v 0) (.c 0))) (.im (.zeq (.v 1) (.g (.v 0))) (.im (.zeq (.v 1) (.c 0)) .ff))):=L.run _ 2 rfl _ _
theorem xp138:LH [a0,a1,a2,a3] [] (.im (.le (.v 0) (.v 1)) (.im (.le (.v 2) (.v 3)) (.lt (.a (.v 2) (.v 0)) (.a (.v 3) (.a (.v 1) (.c 1)))))):=L.run _ 4 rfl _ _
theorem xp139:LH [a0,a1] [z0] (.im (.zle (.v 0) (.n (.v 0))) (.im (.zeq (.v 0) (.a (.n (.v 1)) (.c 1))) (.lt (.v 1) (.v 0)))):=L.run _ 2 rfl _ _
theorem xp140:LH [a0,a1,a2] [] (.im (.le (.v 0) (.c 1000)) (.im (.le (.v 1) (.m 2 (.a (.v 0) (.c 1)))) (.im (.le (.v 2) (.m 2 (.a (.v 0) (.c 1)))) (.lt (.a (.v 1) (.v 2)) (.c 16777216))))):=L.run _ 3 rfl _ _
theorem xp141:LH [a0] [] (.im (.le (.v 0) (.c 1000)) (.zle (.a (.n (.v 0)) (.c 1)) (.n (.c 16777216)))):=L.run _ 1 rfl _ _
theorem xp142:LH [a0] [] (.zle (.c 0) (.a (.n (.v 0)) (.c 1))):=L.run _ 1 rfl _ _
theorem xp143:LH [a0,a1] [] (.im (.le (.v 0) (.c 21)) (.im (.lt (.v 1) (.a (.v 0) (.c 1))) (.lt (.v 1) (.a (.c 21) (.c 1))))):=L.run _ 2 rfl _ _
theorem xp144:LH [a0] [] (.im (.le (.v 0) (.c 10)) (.le (.v 0) (.c 40))):=L.run _ 1 rfl _ _
theorem xp145:LH [a0] [] (.im (.le (.v 0) (.c 10)) (.le (.a (.m 2 (.v 0)) (.c 1)) (.c 1000))):=L.run _ 1 rfl _ _
theorem xp146:LH [a0] [] (.im (.le (.v 0) (.c 10)) (.le (.a (.m 2 (.v 0)) (.c 1)) (.c 21))):=L.run _ 1 rfl _ _
theorem xp147:LH [a0,a1] [] (.im (.lt (.a (.v 0) (.a (.v 1) (.c 1))) (.c 1000)) (.lt (.a (.a (.v 0) (.c 1)) (.v 1)) (.c 1000))):=L.run _ 2 rfl _ _
theorem xp148:LH [a0,a1] [] (.im (.lt (.a (.v 0) (.a (.v 1) (.c 1))) (.c 1000)) (.lt (.a (.v 0) (.v 1)) (.c 1000))):=L.run _ 2 rfl _ _
theorem xp149:LH [a0,a1] [] (.zeq (.a (.a (.n (.v 0)) (.c 1)) (.n (.v 1))) (.a (.n (.v 0)) (.a (.n (.v 1)) (.c 1)))):=L.run _ 2 rfl _ _
theorem xp150:LH [a0,a1] [] (.im (.lt (.a (.v 0) (.a (.v 1) (.c 1))) (.c 1000)) (.lt (.v 0) (.c 16777216))):=L.run _ 2 rfl _ _
theorem xp151:LH [a0,a1] [] (.im (.le (.a (.v 0) (.a (.v 1) (.c 1))) (.c 900)) (.lt (.a (.v 1) (.v 0)) (.c 1000))):=L.run _ 2 rfl _ _
theorem xp152:LH [a0] [] (.im (.le (.v 0) (.c 21)) (.le (.v 0) (.c 1000))):=L.run _ 1 rfl _ _
theorem xp153:LH [a0,a1] [] (.im (.lt (.v 0) (.c 1000)) (.im (.le (.v 1) (.v 0)) (.le (.v 1) (.c 16777216)))):=L.run _ 2 rfl _ _
theorem xp154:LH [a0] [] (.im (.le (.v 0) (.c 21)) (.le (.v 0) (.c 900))):=L.run _ 1 rfl _ _
theorem xp155:LH [a0,a1] [] (.le (.a (.v 0) (.c 1)) (.a (.v 0) (.a (.v 1) (.c 1)))):=L.run _ 2 rfl _ _
theorem xp156:LH [a0,a1] [] (.le (.a (.v 0) (.a (.v 1) (.c 1))) (.a (.v 0) (.a (.v 1) (.c 1)))):=L.run _ 2 rfl _ _
theorem xp157:LH [a0] [] (.eq (.s (.a (.v 0) (.c 1)) (.v 0)) (.c 1)):=L.run _ 1 rfl _ _
theorem xp158:LH [a0,a1] [] (.le (.v 0) (.a (.v 0) (.a (.v 1) (.c 1)))):=L.run _ 2 rfl _ _
theorem xp159:LH [a0,a1] [] (.im (.le (.a (.v 0) (.a (.v 1) (.c 1))) (.c 900)) (.le (.a (.v 1) (.v 0)) (.c 16777216))):=L.run _ 2 rfl _ _
theorem xp160:LH [a0,a1] [] (.im (.le (.v 0) (.v 1)) (.le (.a (.v 0) (.c 1)) (.a (.v 1) (.c 1)))):=L.run _ 2 rfl _ _
theorem xp161:LH [a0] [] (.im (.le (.v 0) (.c 10)) (.le (.m 2 (.v 0)) (.c 20))):=L.run _ 1 rfl _ _
theorem xp162:LH [a0] [] (.im (.le (.v 0) (.c 20)) (.lt (.v 0) (.c 1000))):=L.run _ 1 rfl _ _
theorem xp163:LH [a0,a1] [] (.im (.lt (.a (.v 0) (.v 1)) (.c 1000)) (.lt (.v 0) (.c 1000))):=L.run _ 2 rfl _ _
theorem xp164:LH [] [] (.lt (.c 20) (.c 1000000)):=L.run _ 0 rfl _ _
theorem xp165:LH [] [] (.lt (.a (.c 0) (.c 20)) (.c 1000)):=L.run _ 0 rfl _ _
theorem xp166:LH [a0,a1,a2] [] (.im (.le (.v 0) (.v 1)) (.le (.v 0) (.a (.v 1) (.v 2)))):=L.run _ 3 rfl _ _
theorem xp167:LH [a0,a1,a2] [] (.im (.le (.v 0) (.v 1)) (.im (.lt (.a (.v 2) (.v 1)) (.c 1000)) (.lt (.v 0) (.c 1000)))):=L.run _ 3 rfl _ _
theorem xp168:LH [] [z0,z1] (.im (.zeq (.v 0) (.g (.v 1))) (.im (.no (.zeq (.v 1) (.g (.v 0)))) .ff)):=L.run _ 2 rfl _ _
theorem xp169:LH [a0,a1,a2] [] (.im (.le (.v 0) (.v 1)) (.im (.lt (.a (.a (.v 1) (.c 1)) (.v 2)) (.c 1000)) (.lt (.v 0) (.c 16777216)))):=L.run _ 3 rfl _ _
theorem xp170:LH [a0] [] (.im (.lt (.v 0) (.c 1000)) (.lt (.v 0) (.c 16777216))):=L.run _ 1 rfl _ _
theorem xp171:LH [a0,a1] [] (.im (.le (.v 0) (.v 1)) (.im (.lt (.c 0) (.v 0)) (.eq (.v 1) (.a (.s (.v 1) (.c 1)) (.c 1))))):=L.run _ 2 rfl _ _
theorem xp172:LH [a0,a1,a2] [] (.im (.lt (.v 0) (.v 1)) (.im (.le (.v 1) (.a (.v 2) (.c 1))) (.le (.v 0) (.v 2)))):=L.run _ 3 rfl _ _
theorem xp173:LH [a0,a1] [] (.im (.lt (.a (.v 0) (.c 1)) (.a (.v 1) (.c 1))) (.lt (.v 0) (.v 1))):=L.run _ 2 rfl _ _
theorem xp174:LH [a0] [] (.im (.lt (.c 0) (.v 0)) (.zlt (.c 0) (.n (.v 0)))):=L.run _ 1 rfl _ _
theorem xp175:LH [a0,a1] [] (.im (.le (.v 0) (.c 1000)) (.im (.le (.v 1) (.v 0)) (.le (.v 1) (.c 16777216)))):=L.run _ 2 rfl _ _
theorem xp176:LH [a0] [] (.im (.le (.v 0) (.c 1000)) (.le (.v 0) (.c 16777216))):=L.run _ 1 rfl _ _
theorem xp177:LH [a0] [] (.im (.le (.v 0) (.c 1000)) (.zle (.n (.v 0)) (.n (.c 16777216)))):=L.run _ 1 rfl _ _
theorem xp178:LH [a0,a1] [] (.im (.le (.v 0) (.c 1000)) (.im (.le (.v 1) (.v 0)) (.le (.v 1) (.c 1000)))):=L.run _ 2 rfl _ _
theorem xp179:LH [a0] [] (.im (.le (.v 0) (.c 20)) (.le (.v 0) (.c 1000))):=L.run _ 1 rfl _ _
theorem xp180:LH [a0] [] (.im (.no (.le (.c 2) (.v 0))) (.im (.lt (.c 0) (.v 0)) (.eq (.v 0) (.c 1)))):=L.run _ 1 rfl _ _
theorem xp181:LH [a0] [] (.im (.le (.v 0) (.c 10)) (.le (.v 0) (.c 1000))):=L.run _ 1 rfl _ _
theorem xp182:LH [a0,a1,a2] [] (.im (.le (.m 2 (.v 0)) (.a (.v 1) (.c 1))) (.im (.eq (.v 2) (.v 0)) (.im (.lt (.c 0) (.v 2)) (.im (.eq (.v 1) (.c 1)) (.eq (.m 2 (.v 0)) (.a (.v 1) (.c 1))))))):=L.run _ 3 rfl _ _
theorem xp183:LH [a0] [] (.im (.zlt (.c 0) (.n (.v 0))) (.no (.zeq (.n (.v 0)) (.c 0)))):=L.run _ 1 rfl _ _
end Mine.Internal
end
section
namespace Mine.Internal
theorem tn1 {n:Nat}:((n:Int)+1-1).toNat=n:=by rw [Int.add_sub_cancel];rfl
theorem tn4 {a:Int} (h:0 < a):(((a-1).toNat:Nat):Int)+1=a:=by rw [Int.toNat_of_nonneg (Int.le_sub_one_of_lt h),Int.sub_add_cancel]
theorem tn3 {a:Int} {n:Nat} (h:0 < a) (h2:a<=n):(a-1).toNat < n:=Int.ofNat_lt.1 (Int.lt_of_add_one_le ((tn4 h).symm ▸ h2))
theorem ltiff {a b:Int} (h:0 < a↔0 < b) (ha:a≠0) (hb:b≠0):b < 0↔a < 0:=by omega
theorem cl1 {a b g:Nat} (h:g<=a+b+1):g-a-1 < b+a+1:=by omega
theorem dep1 {a d l:Nat} (h:a+(d+1)+10 < l):a < l:=Nat.lt_of_le_of_lt (Nat.le_trans (Nat.le_add_right a (d+1)) (Nat.le_add_right _ 10)) h
theorem dep2 {a d l:Nat} (h:a+(d+1)+10 < l):a+1+d+10 < l:=by rw [Nat.add_right_comm a 1 d];exact h
theorem dep3 {a d l:Nat} (h:a+d+10 < l):a+1 < l:=Nat.lt_of_le_of_lt (Nat.le_trans (Nat.add_le_add_left (show 1<=10 by decide) a) (Nat.add_le_add_right (Nat.le_add_right a d) 10)) h
end Mine.Internal
end
section
set_option backward.eqns.nonrecursive false
namespace Mine.Internal
open PySem
inductive Key where
 | int (i:Int)
 | tup (l:List Int)
 deriving DecidableEq
inductive PV where
 | none
 | bool (b:Bool)
 | int (i:Int)
 | tuple (l:List PV)
 | list (l:List PV)
 | dict (l:List (Key×PV))
 | str (s:Str)
 | obj (th:List PV) (tu:List (Key×PV)) (kd:Str) (fr lf:Int)
inductive Res (α:Type) where
 | ok (a:α)
 | stuck
noncomputable def Res.bind {α β:Type}:Res α->(α->Res β)->Res β
 | .ok a,f=>f a
 | .stuck,_=>.stuck
theorem noS {α:Type} {a:α} {p:Prop} (h:Option.none=some a):p:=by cases h
theorem Res.no {α:Type} {d:α} {p:Prop} (h:(.stuck:Res α)=.ok d):p:=by cases h
noncomputable def lim:Nat:=16777216
inductive BOp where | add | sub | mul | fdiv | mod
inductive COp where | eq | ne | lt | gt | isIn | notIn | is_ | isNot | no
inductive ItK where | range1 | enum | seq
inductive Ty where | int | bool | tuple | list | str | seq
set_option genCtorIdx false
set_option genInjectivity false
inductive Prim where
 | len | abs | listOf | listRange | tupleOf | intOf | all | any | max2
 | isi (t:Ty)
inductive Tgt where
 | one (i:Nat)
 | many (is:List Nat)
inductive PE where
 | var (i:Nat)
 | const (d:PV)
 | tup (l:List PE)
 | lst (l:List PE)
 | dct0
 | bin (o:BOp) (a b:PE)
 | neg (a:PE)
 | not (a:PE)
 | cmp (o:COp) (a b:PE)
 | and (l:List PE)
 | or (l:List PE)
 | ite (c a b:PE)
 | idx (a i:PE)
 | slL (a lo:PE)
 | slH (a hi:PE)
 | slLH (a lo hi:PE)
 | attr (a:PE) (k:Nat)
 | chain (a b c d:PE)
 | call (f:Nat) (clean:Bool) (l:List PE)
 | prim (p:Prim) (l:List PE)
 | index (a b:PE)
 | comp (elt:PE) (t:Tgt) (k:ItK) (src:List PE) (conds:List PE)
inductive PS where
 | assign (i:Nat) (e:PE)
 | unpack (is:List Nat) (e:PE)
 | setItem (i:Nat) (k v:PE)
 | append (i:Nat) (e:PE)
 | update (i:Nat) (e:PE)
 | ite (c:PE) (a b:List PS)
 | for_ (t:Tgt) (k:ItK) (src:List PE) (body:List PS)
 | while_ (c:PE) (body:List PS)
 | ret (e:PE)
 | expr (e:PE)
 | halt
 | tryR (f:Nat) (l:List PE)
 | retMk (i:Nat) (b c d:PE)
set_option genCtorIdx true
set_option genInjectivity true
mutual
noncomputable def PV.imm:PV->Bool
 | .none | .bool _ | .int _ | .str _=>true
 | .tuple l=>PV.imms l
 | .list _ | .dict _ | .obj ..=>false
noncomputable def PV.imms:List PV->Bool
 | []=>true
 | x::xs=>PV.imm x&&PV.imms xs
end
noncomputable def PV.clean:PV->Bool
 | .list l=>PV.imms l
 | .dict l=>PV.imms (l.map (·.2))
 | d=>d.imm
mutual
noncomputable def PV.eq:PV->PV->Bool
 | .int i,.int j=>i==j
 | .str x,.str y=>x==y
 | .none,.none=>true
 | .list xs,.list ys=>PV.eqs xs ys
 | _,_=>false
noncomputable def PV.eqs:List PV->List PV->Bool
 | [],[]=>true
 | x::xs,y::ys=>PV.eq x y&&PV.eqs xs ys
 | _,_=>false
end
mutual
noncomputable def PV.flat:PV->Bool
 | .int _ | .str _ | .none=>true
 | .list l=>PV.flats l
 | _=>false
noncomputable def PV.flats:List PV->Bool
 | []=>true
 | x::xs=>PV.flat x&&PV.flats xs
end
mutual
noncomputable def PV.depth:PV->Nat
 | .list l=>PV.depths l+1
 | _=>0
noncomputable def PV.depths:List PV->Nat
 | []=>0
 | x::xs=>max (PV.depth x) (PV.depths xs)
end
noncomputable def PV.ints?:List PV->Option (List Int)
 | []=>some []
 | .int i::r=>(PV.ints? r).map (i::·)
 | _::_=>Option.none
noncomputable def PV.key?:PV->Option Key
 | .int i=>some (.int i)
 | .tuple l=>(PV.ints? l).map .tup
 | _=>Option.none
noncomputable def Key.pv:Key->PV
 | .int i=>.int i
 | .tup l=>.tuple (l.map .int)
noncomputable def Key.same:Key->Key->Bool
 | .int _,.int _=>true
 | .tup _,.tup _=>true
 | _,_=>false
noncomputable def dget (l:List (Key×PV)) (k:Key):Option PV:=(l.find? fun p=>p.1=k).map (·.2)
noncomputable def dhas (l:List (Key×PV)) (k:Key):Bool:=l.any fun p=>p.1=k
noncomputable def dput (l:List (Key×PV)) (k:Key) (v:PV):List (Key×PV):=
 if dhas l k then l.map fun p=>if p.1=k then (p.1,v) else p else l++[(k,v)]
noncomputable def dfits (l:List (Key×PV)) (k:Key):Bool:=l.all fun p=>p.1.same k
noncomputable def dupd (l m:List (Key×PV)):List (Key×PV):=m.foldl (fun l p=>dput l p.1 p.2) l
noncomputable def thash (l:List Int):Int:=reduceHash (Builtin.Tuple.tupleHashOf (l.map hashInt))
noncomputable def khash:Key->Int
 | .int i=>hashInt i
 | .tup l=>thash l
noncomputable def mkL (l:List PV):Res PV:=if l.length<=lim then .ok (.list l) else .stuck
noncomputable def mkT (l:List PV):Res PV:=if l.length<=lim then .ok (.tuple l) else .stuck
noncomputable def big (i:Int):Bool:=decide (4611686018427387904<=i.natAbs)
noncomputable def int2 {α:Type} (f:Int->Int->Res α):PV->PV->Res α
 | .int a,.int b=>f a b
 | _,_=>.stuck
noncomputable def addV:PV->PV->Res PV
 | .int a,.int b=>.ok (.int (a+b))
 | .list a,.list b=>mkL (a++b)
 | _,_=>.stuck
noncomputable def mulV:PV->PV->Res PV
 | .int a,.int b=>if big a||big b then .stuck else .ok (.int (a*b))
 | _,_=>.stuck
noncomputable def binop (o:BOp) (x y:PV):Res PV:=match o with
 | .add=>addV x y
 | .sub=>int2 (fun a b=>.ok (.int (a-b))) x y
 | .mul=>mulV x y
 | .fdiv=>int2 (fun a b=>if b=0||decide (1073741824<=b.natAbs) then .stuck else .ok (.int (Int.fdiv a b))) x y
 | .mod=>int2 (fun a b=>if b=0 then .stuck else .ok (.int (Int.fmod a b))) x y
noncomputable def isin (x:PV):PV->Res Bool
 | .list l=>if PV.flats l&&x.flat&&decide (x.depth<=60) then .ok (l.any fun y=>PV.eq y x) else .stuck
 | .tuple l=>if PV.flats l&&x.flat&&decide (x.depth<=60) then .ok (l.any fun y=>PV.eq y x) else .stuck
 | .dict l=>match x.key? with
  | some k=>if dfits l k then .ok (dhas l k) else .stuck
  | Option.none=>.stuck
 | _=>.stuck
noncomputable def isN:PV->PV->Res Bool
 | .none,.none=>.ok true
 | .str _,.none=>.ok false
 | _,_=>.stuck
noncomputable def cmpop (o:COp) (x y:PV):Res Bool:=match o with
 | .eq=>if x.flat&&y.flat&&decide (x.depth<=60) then .ok (PV.eq x y) else .stuck
 | .ne=>if x.flat&&y.flat&&decide (x.depth<=60) then .ok (!PV.eq x y) else .stuck
 | .lt=>int2 (fun a b=>.ok (decide (a < b))) x y
 | .gt=>int2 (fun a b=>.ok (decide (a > b))) x y
 | .isIn=>isin x y
 | .notIn=>(isin x y).bind fun r=>.ok (!r)
 | .is_=>isN x y
 | .isNot=>(isN x y).bind fun r=>.ok (!r)
 | .no=>.stuck
noncomputable def getIdx:PV->PV->Res PV
 | .list l,.int i=>if 0<=i then (match l[i.toNat]? with | some d=>.ok d | Option.none=>.stuck) else .stuck
 | .tuple l,.int i=>if 0<=i then (match l[i.toNat]? with | some d=>.ok d | Option.none=>.stuck) else .stuck
 | .dict l,k=>(match k.key? with
  | some k=>if dfits l k then (match dget l k with | some d=>.ok d | Option.none=>.stuck) else .stuck
  | Option.none=>.stuck)
 | _,_=>.stuck
noncomputable def clip (n:Nat) (i:Int):Nat:=if i < 0 then (i+n).toNat else min i.toNat n
noncomputable def cut (l:List PV) (lo hi:Nat):List PV:=(l.take hi).drop lo
noncomputable def slice (lo hi:Option PV) (l:List PV):Option (List PV):=match lo,hi with
 | some (.int a),some (.int b)=>some (cut l (clip l.length a) (clip l.length b))
 | some (.int a),Option.none=>some (cut l (clip l.length a) l.length)
 | Option.none,some (.int b)=>some (cut l 0 (clip l.length b))
 | _,_=>Option.none
noncomputable def slc (lo hi:Option PV):PV->Res PV
 | .list l=>(match slice lo hi l with | some l=>.ok (.list l) | Option.none=>.stuck)
 | .tuple l=>(match slice lo hi l with | some l=>.ok (.tuple l) | Option.none=>.stuck)
 | _=>.stuck
noncomputable def upto (lo hi:Int):List PV:=(List.range (hi-lo).toNat).map fun (k:Nat)=>.int (lo+k)
noncomputable def l1 (f:PV->Res (List PV)):List PV->Res (List PV)
 | [x]=>f x
 | _=>.stuck
noncomputable def rangeI:PV->Res (List PV)
 | .int n=>if decide (0<=n)&&decide (n<=lim) then .ok (upto 0 n) else .stuck
 | _=>.stuck
noncomputable def seqI:PV->Res (List PV)
 | .list l=>.ok l
 | .tuple l=>.ok l
 | .dict l=>if dfits l (.int 0) then .ok (l.map fun p=>p.1.pv) else .stuck
 | _=>.stuck
noncomputable def enumI:PV->Res (List PV)
 | .tuple l=>.ok (l.zipIdx.map fun p=>.tuple [.int p.2,p.1])
 | _=>.stuck
noncomputable def items (k:ItK) (l:List PV):Res (List PV):=match k with
 | .range1=>l1 rangeI l
 | .seq=>l1 seqI l
 | .enum=>l1 enumI l
noncomputable def isi1:Ty->PV->Res PV
 | .int,.int _=>.ok (.bool true)
 | .bool,.int _=>.ok (.bool false)
 | .bool,.bool _=>.ok (.bool true)
 | .tuple,.tuple _=>.ok (.bool true)
 | .list,.list _=>.ok (.bool true)
 | .str,.str _=>.ok (.bool true)
 | .seq,.tuple _=>.ok (.bool true)
 | .seq,.list _=>.ok (.bool true)
 | _,_=>.stuck
noncomputable def bools?:List PV->Option (List Bool)
 | []=>some []
 | .bool i::r=>(bools? r).map (i::·)
 | _::_=>Option.none
noncomputable def indexIn (l:List PV) (x:PV):Res PV:=
 match PV.ints? l,x with
 | some l,.int i=>(match l.idxOf? i with | some k=>.ok (.int k) | Option.none=>.stuck)
 | _,_=>.stuck
noncomputable def index1:PV->PV->Res PV
 | .list l,x=>indexIn l x
 | _,_=>.stuck
noncomputable def p1 (f:PV->Res PV):List PV->Res PV
 | [x]=>f x
 | _=>.stuck
noncomputable def p2 (f:PV->PV->Res PV):List PV->Res PV
 | [x,y]=>f x y
 | _=>.stuck
noncomputable def len1:PV->Res PV
 | .list l=>.ok (.int l.length)
 | .tuple l=>.ok (.int l.length)
 | .dict l=>if dfits l (.int 0) then .ok (.int l.length) else .stuck
 | _=>.stuck
noncomputable def abs1:PV->Res PV
 | .int i=>.ok (.int (if i < 0 then -i else i))
 | _=>.stuck
noncomputable def list1:PV->Res PV
 | .tuple l=>.ok (.list l)
 | _=>.stuck
noncomputable def tuple1:PV->Res PV
 | .list l=>.ok (.tuple l)
 | _=>.stuck
noncomputable def int1:PV->Res PV
 | .bool b=>.ok (.int (if b then 1 else 0))
 | _=>.stuck
noncomputable def allB (l:List PV):Res PV:=match bools? l with | some l=>.ok (.bool (l.all id)) | Option.none=>.stuck
noncomputable def all1:PV->Res PV
 | .list l=>allB l
 | _=>.stuck
noncomputable def anyB (l:List PV):Res PV:=match bools? l with | some l=>.ok (.bool (l.any id)) | Option.none=>.stuck
noncomputable def any1:PV->Res PV
 | .list l=>anyB l
 | _=>.stuck
noncomputable def prim (p:Prim) (l:List PV):Res PV:=match p with
 | .len=>p1 len1 l
 | .abs=>p1 abs1 l
 | .listOf=>p1 list1 l
 | .listRange=>(items .range1 l).bind mkL
 | .tupleOf=>p1 tuple1 l
 | .intOf=>p1 int1 l
 | .all=>p1 all1 l
 | .max2=>p2 (int2 fun a b=>.ok (.int (if a < b then b else a))) l
 | .isi t=>p1 (isi1 t) l
 | .any=>p1 any1 l
noncomputable def attr1 (k:Nat):PV->Res PV
 | .obj th tu kd f l=>(match k with
  | 0=>.ok (.list th)
  | 1=>.ok (.dict tu)
  | 2=>.ok (.str kd)
  | 3=>.ok (.int f)
  | 4=>.ok (.int l)
  | _=>.stuck)
 | _=>.stuck
noncomputable def chain4:PV->PV->PV->PV->Res PV
 | x,y,z,u=>int2 (fun a b=>int2 (fun c d=>if decide (a<=b)&&decide (b<=c)&&decide (c<=d) then .ok (.bool true) else .stuck) z u) x y
noncomputable def onL (g:List PV->Res PV):PV->Res PV
 | .list l=>g l
 | _=>.stuck
noncomputable def onD (g:List (Key×PV)->Res PV):PV->Res PV
 | .dict l=>g l
 | _=>.stuck
noncomputable def onS (g:Str->Res PV):PV->Res PV
 | .str l=>g l
 | _=>.stuck
noncomputable def onI (g:Int->Res PV):PV->Res PV
 | .int l=>g l
 | _=>.stuck
noncomputable def mk1 (x y z u:PV):Res PV:=onL (fun l=>onD (fun m=>onS (fun k=>onI (fun f=>if dfits m (.int 0)&&PV.imms l&&PV.imms (m.map (·.2)) then .ok (.obj l m k f l.length) else .stuck) u) z) y) x
theorem onL_ok {g:List PV->Res PV} {x d:PV} (h:onL g x=.ok d):∃ l,x=.list l/\g l=.ok d:=by
 cases x with
 | list l=>exact ⟨l,rfl,h⟩
 | _=>exact Res.no h
theorem onD_ok {g:List (Key×PV)->Res PV} {x d:PV} (h:onD g x=.ok d):∃ l,x=.dict l/\g l=.ok d:=by
 cases x with
 | dict l=>exact ⟨l,rfl,h⟩
 | _=>exact Res.no h
theorem onS_ok {g:Str->Res PV} {x d:PV} (h:onS g x=.ok d):∃ l,x=.str l/\g l=.ok d:=by
 cases x with
 | str l=>exact ⟨l,rfl,h⟩
 | _=>exact Res.no h
theorem onI_ok {g:Int->Res PV} {x d:PV} (h:onI g x=.ok d):∃ l,x=.int l/\g l=.ok d:=by
 cases x with
 | int l=>exact ⟨l,rfl,h⟩
 | _=>exact Res.no h
theorem p1_ok {f:PV->Res PV} {l:List PV} {d:PV} (h:p1 f l=.ok d):∃ x,l=[x]/\f x=.ok d:=by
 cases l with
 | nil=>cases h
 | cons x l=>
  cases l with
  | nil=>exact ⟨x,rfl,h⟩
  | cons _ _=>cases h
theorem p2_ok {f:PV->PV->Res PV} {l:List PV} {d:PV} (h:p2 f l=.ok d):∃ x y,l=[x,y]/\f x y=.ok d:=by
 cases l with
 | nil=>cases h
 | cons x l=>
  cases l with
  | nil=>cases h
  | cons y l=>
   cases l with
   | nil=>exact ⟨x,y,rfl,h⟩
   | cons _ _=>cases h
theorem int2_ok {α:Type} {f:Int->Int->Res α} {x y:PV} {d:α} (h:int2 f x y=.ok d):∃ a b,x=.int a/\y=.int b/\f a b=.ok d:=by
 cases x with
 | int a=>
  cases y with
  | int b=>exact ⟨a,b,rfl,rfl,h⟩
  | _=>exact Res.no h
 | _=>exact Res.no h
theorem if_ok {α:Type} {c:Prop} [Decidable c] {r:Res α} {d:α} (h:(if c then r else .stuck)=.ok d):c/\r=.ok d:=by
 by_cases q:c
 ·exact ⟨q,by rwa [if_pos q] at h⟩
 ·rw [if_neg q] at h;cases h
theorem if_ok' {α:Type} {c:Prop} [Decidable c] {r:Res α} {d:α} (h:(if c then .stuck else r)=.ok d):¬ c/\r=.ok d:=by
 by_cases q:c
 ·rw [if_pos q] at h;cases h
 ·exact ⟨q,by rwa [if_neg q] at h⟩
abbrev Slots:=List (Option PV)
noncomputable def setTgt:Tgt->PV->Slots->Res Slots
 | .one i,d,ρ=>.ok (ρ.set i (some d))
 | .many is,.tuple l,ρ=>if is.length=l.length then .ok ((is.zip l).foldl (fun ρ p=>ρ.set p.1 (some p.2)) ρ) else .stuck
 | _,_,_=>.stuck
noncomputable def clr:Tgt->Slots->Slots
 | .one i,ρ=>ρ.set i Option.none
 | .many is,ρ=>is.foldl (fun ρ i=>ρ.set i Option.none) ρ
noncomputable def slot (ρ:Slots) (i:Nat):Res PV:=match ρ[i]? with
 | some (some d)=>.ok d
 | _=>.stuck
section
variable (cf:Nat->List PV->Res PV)
noncomputable def noExc {α:Type} (r:Res α):Res α:=r
noncomputable def compGo (elt:Slots->Res PV) (cond:Slots->Res Bool) (t:Tgt):List PV->Slots->Res (List PV)
 | [],_=>.ok []
 | d::ds,ρ=>(setTgt t d ρ).bind fun ρ'=>(cond ρ').bind fun b=>
   if b then (elt ρ').bind fun x=>(compGo elt cond t ds ρ').bind fun xs=>.ok (x::xs) else compGo elt cond t ds ρ'
mutual
noncomputable def ev (ρ:Slots):PE->Res PV
 | .var i=>slot ρ i
 | .const d=>.ok d
 | .tup l=>(evs ρ l).bind mkT
 | .lst l=>(evs ρ l).bind mkL
 | .dct0=>.ok (.dict [])
 | .bin o a b=>(ev ρ a).bind fun x=>(ev ρ b).bind fun y=>binop o x y
 | .neg a=>(ev ρ a).bind fun x=>match x with | .int i=>.ok (.int (-i)) | _=>.stuck
 | .not a=>(ev ρ a).bind fun x=>match x with | .bool b=>.ok (.bool (!b)) | _=>.stuck
 | .cmp o a b=>(ev ρ a).bind fun x=>(ev ρ b).bind fun y=>(cmpop o x y).bind fun r=>.ok (.bool r)
 | .and l=>(evAnd ρ l).bind fun r=>.ok (.bool r)
 | .or l=>(evOr ρ l).bind fun r=>.ok (.bool r)
 | .ite c a b=>(ev ρ c).bind fun x=>match x with | .bool t=>if t then ev ρ a else ev ρ b | _=>.stuck
 | .idx a i=>(ev ρ a).bind fun x=>(ev ρ i).bind fun y=>getIdx x y
 | .slL a lo=>(ev ρ a).bind fun x=>(ev ρ lo).bind fun y=>slc (some y) Option.none x
 | .slH a hi=>(ev ρ a).bind fun x=>(ev ρ hi).bind fun y=>slc Option.none (some y) x
 | .slLH a lo hi=>(ev ρ a).bind fun x=>(ev ρ lo).bind fun y=>(ev ρ hi).bind fun z=>slc (some y) (some z) x
 | .attr a k=>(ev ρ a).bind (attr1 k)
 | .chain a b c d=>(ev ρ a).bind fun x=>(ev ρ b).bind fun y=>(ev ρ c).bind fun z=>(ev ρ d).bind fun u=>chain4 x y z u
 | .call f c l=>(evs ρ l).bind fun xs=>(cf f xs).bind fun d=>if !c||d.clean then .ok d else .stuck
 | .prim p l=>(evs ρ l).bind fun xs=>prim p xs
 | .index a b=>(ev ρ a).bind fun x=>(ev ρ b).bind fun y=>index1 x y
 | .comp elt t k src conds=>(evs ρ src).bind fun xs=>(items k xs).bind fun ds=>
   (noExc (compGo (fun ρ'=>ev ρ' elt) (fun ρ'=>evAnd ρ' conds) t ds (clr t ρ))).bind mkL
noncomputable def evs (ρ:Slots):List PE->Res (List PV)
 | []=>.ok []
 | e::r=>(ev ρ e).bind fun x=>(evs ρ r).bind fun xs=>.ok (x::xs)
noncomputable def evAnd (ρ:Slots):List PE->Res Bool
 | []=>.ok true
 | e::r=>(ev ρ e).bind fun x=>match x with | .bool b=>if b then evAnd ρ r else .ok false | _=>.stuck
noncomputable def evOr (ρ:Slots):List PE->Res Bool
 | []=>.ok false
 | e::r=>(ev ρ e).bind fun x=>match x with | .bool b=>if b then .ok true else evOr ρ r | _=>.stuck
end
noncomputable def nil1 {α:Type} (r:Res α):PV->Res α
 | .none=>r
 | _=>.stuck
inductive Out where
 | next (ρ:Slots)
 | ret (d:PV)
noncomputable def forGo (body:Slots->Res Out) (t:Tgt):List PV->Slots->Res Out
 | [],ρ=>.ok (.next ρ)
 | d::ds,ρ=>(setTgt t d ρ).bind fun ρ'=>(body ρ').bind fun o=>match o with
   | .next ρ''=>forGo body t ds ρ''
   | .ret d=>.ok (.ret d)
noncomputable def whileGo (test:Slots->Res PV) (body:Slots->Res Out):Nat->Slots->Res Out
 | 0,_=>.stuck
 | n+1,ρ=>(test ρ).bind fun x=>match x with
   | .bool true=>(body ρ).bind fun o=>(match o with
    | .next ρ'=>whileGo test body n ρ'
    | .ret d=>.ok (.ret d))
   | .bool false=>.ok (.next ρ)
   | _=>.stuck
noncomputable def fuel:Nat:=1000000
mutual
noncomputable def ex (ρ:Slots):PS->Res Out
 | .assign i e=>(ev cf ρ e).bind fun d=>.ok (.next (ρ.set i (some d)))
 | .unpack is e=>(ev cf ρ e).bind fun d=>(setTgt (.many is) d ρ).bind fun ρ'=>.ok (.next ρ')
 | .setItem i k v=>(ev cf ρ v).bind fun d=>(slot ρ i).bind fun c=>match c with
   | .dict l=>(ev cf ρ k).bind fun kk=>(match kk.key? with
    | some k=>if dfits l k&&decide (l.length < lim) then .ok (.next (ρ.set i (some (.dict (dput l k d))))) else .stuck
    | Option.none=>.stuck)
   | _=>.stuck
 | .append i e=>(slot ρ i).bind fun c=>match c with
   | .list l=>(ev cf ρ e).bind fun d=>if decide (l.length < lim) then .ok (.next (ρ.set i (some (.list (l++[d]))))) else .stuck
   | _=>.stuck
 | .update i e=>(slot ρ i).bind fun c=>match c with
   | .dict l=>(ev cf ρ e).bind fun d=>(match d with
    | .dict m=>if dfits l (.tup [])&&dfits m (.tup [])&&decide (l.length+m.length < lim)&&(!l.isEmpty||decide ((m.map fun p=>khash p.1).Nodup)) then .ok (.next (ρ.set i (some (.dict (dupd l m))))) else .stuck
    | _=>.stuck)
   | _=>.stuck
 | .ite c a b=>(ev cf ρ c).bind fun x=>match x with | .bool t=>if t then exs ρ a else exs ρ b | _=>.stuck
 | .for_ t k src body=>(evs cf ρ src).bind fun xs=>(items k xs).bind fun ds=>noExc (forGo (fun ρ'=>exs ρ' body) t ds ρ)
 | .while_ c body=>noExc (whileGo (fun ρ'=>ev cf ρ' c) (fun ρ'=>exs ρ' body) fuel ρ)
 | .ret e=>(ev cf ρ e).bind fun d=>.ok (.ret d)
 | .expr e=>(ev cf ρ e).bind (nil1 (.ok (.next ρ)))
 | .halt=>.stuck
 | .tryR f l=>(evs cf ρ l).bind fun xs=>(cf (f+1000) xs).bind fun _=>.ok (.ret (.bool true))
 | .retMk i b c d=>(slot ρ i).bind fun x=>(ev cf ρ b).bind fun y=>(ev cf ρ c).bind fun z=>(ev cf ρ d).bind fun u=>(mk1 x y z u).bind fun d=>.ok (.ret d)
noncomputable def exs (ρ:Slots):List PS->Res Out
 | []=>.ok (.next ρ)
 | p::r=>(ex ρ p).bind fun o=>match o with
   | .next ρ'=>exs ρ' r
   | .ret d=>.ok (.ret d)
end
end
section
variable {cf:Nat->List PV->Res PV} {ρ:Slots}
theorem vE1 {i:Nat}:ev cf ρ (.var i)=(slot ρ i):=rfl
theorem vE2 {d:PV}:ev cf ρ (.const d)=(.ok d):=rfl
theorem vE3 {l:List PE}:ev cf ρ (.tup l)=((evs cf ρ l).bind mkT):=rfl
theorem vE4 {l:List PE}:ev cf ρ (.lst l)=((evs cf ρ l).bind mkL):=rfl
theorem vE6 {o:BOp} {a:PE} {b:PE}:ev cf ρ (.bin o a b)=((ev cf ρ a).bind fun x=>(ev cf ρ b).bind fun y=>binop o x y):=rfl
theorem vE7 {a:PE}:ev cf ρ (.neg a)=((ev cf ρ a).bind fun x=>match x with | .int i=>.ok (.int (-i)) | _=>.stuck):=rfl
theorem vE8 {a:PE}:ev cf ρ (.not a)=((ev cf ρ a).bind fun x=>match x with | .bool b=>.ok (.bool (!b)) | _=>.stuck):=rfl
theorem vE9 {o:COp} {a:PE} {b:PE}:ev cf ρ (.cmp o a b)=((ev cf ρ a).bind fun x=>(ev cf ρ b).bind fun y=>(cmpop o x y).bind fun r=>.ok (.bool r)):=rfl
theorem vE11 {l:List PE}:ev cf ρ (.and l)=((evAnd cf ρ l).bind fun r=>.ok (.bool r)):=rfl
theorem vE12 {l:List PE}:ev cf ρ (.or l)=((evOr cf ρ l).bind fun r=>.ok (.bool r)):=rfl
theorem vE13 {c:PE} {a:PE} {b:PE}:ev cf ρ (.ite c a b)=((ev cf ρ c).bind fun x=>match x with | .bool t=>if t then ev cf ρ a else ev cf ρ b | _=>.stuck):=rfl
theorem vE14 {a:PE} {i:PE}:ev cf ρ (.idx a i)=((ev cf ρ a).bind fun x=>(ev cf ρ i).bind fun y=>getIdx x y):=rfl
theorem vE16 {a:PE} {lo:PE}:ev cf ρ (.slL a lo)=((ev cf ρ a).bind fun x=>(ev cf ρ lo).bind fun y=>slc (some y) Option.none x):=rfl
theorem vE17 {a:PE} {hi:PE}:ev cf ρ (.slH a hi)=((ev cf ρ a).bind fun x=>(ev cf ρ hi).bind fun y=>slc Option.none (some y) x):=rfl
theorem vE19 {f:Nat} {c:Bool} {l:List PE}:ev cf ρ (.call f c l)=((evs cf ρ l).bind fun xs=>(cf f xs).bind fun d=>if !c||d.clean then .ok d else .stuck):=rfl
theorem vE20 {p:Prim} {l:List PE}:ev cf ρ (.prim p l)=((evs cf ρ l).bind fun xs=>prim p xs):=rfl
theorem vE21 {a:PE} {b:PE}:ev cf ρ (.index a b)=((ev cf ρ a).bind fun x=>(ev cf ρ b).bind fun y=>index1 x y):=rfl
theorem vE22 {elt:PE} {t:Tgt} {k:ItK} {src:List PE} {conds:List PE}:ev cf ρ (.comp elt t k src conds)=((evs cf ρ src).bind fun xs=>(items k xs).bind fun ds=>
   (noExc (compGo (fun ρ'=>ev cf ρ' elt) (fun ρ'=>evAnd cf ρ' conds) t ds (clr t ρ))).bind mkL):=rfl
theorem vE27 {a lo hi:PE}:ev cf ρ (.slLH a lo hi)=((ev cf ρ a).bind fun x=>(ev cf ρ lo).bind fun y=>(ev cf ρ hi).bind fun z=>slc (some y) (some z) x):=rfl
theorem vE28 {a:PE} {k:Nat}:ev cf ρ (.attr a k)=(ev cf ρ a).bind (attr1 k):=rfl
theorem vE29 {a b c d:PE}:ev cf ρ (.chain a b c d)=(ev cf ρ a).bind fun x=>(ev cf ρ b).bind fun y=>(ev cf ρ c).bind fun z=>(ev cf ρ d).bind fun u=>chain4 x y z u:=rfl
theorem evsN:evs cf ρ []=(.ok []):=rfl
theorem evsC {e:PE} {r:List PE}:evs cf ρ (e::r)=((ev cf ρ e).bind fun x=>(evs cf ρ r).bind fun xs=>.ok (x::xs)):=rfl
theorem evAndN:evAnd cf ρ []=(.ok true):=rfl
theorem evAndC {e:PE} {r:List PE}:evAnd cf ρ (e::r)=((ev cf ρ e).bind fun x=>match x with | .bool b=>if b then evAnd cf ρ r else .ok false | _=>.stuck):=rfl
theorem evOrN:evOr cf ρ []=(.ok false):=rfl
theorem evOrC {e:PE} {r:List PE}:evOr cf ρ (e::r)=((ev cf ρ e).bind fun x=>match x with | .bool b=>if b then .ok true else evOr cf ρ r | _=>.stuck):=rfl
theorem xE1 {i:Nat} {e:PE}:ex cf ρ (.assign i e)=((ev cf ρ e).bind fun d=>.ok (.next (ρ.set i (some d)))):=rfl
theorem xE3 {is:List Nat} {e:PE}:ex cf ρ (.unpack is e)=((ev cf ρ e).bind fun d=>(setTgt (.many is) d ρ).bind fun ρ'=>.ok (.next ρ')):=rfl
theorem xE4 {i:Nat} {k:PE} {v:PE}:ex cf ρ (.setItem i k v)=((ev cf ρ v).bind fun d=>(slot ρ i).bind fun c=>match c with
   | .dict l=>(ev cf ρ k).bind fun kk=>(match kk.key? with
    | some k=>if dfits l k&&decide (l.length < lim) then .ok (.next (ρ.set i (some (.dict (dput l k d))))) else .stuck
    | Option.none=>.stuck)
   | _=>.stuck):=rfl
theorem xE5 {i:Nat} {e:PE}:ex cf ρ (.append i e)=((slot ρ i).bind fun c=>match c with
   | .list l=>(ev cf ρ e).bind fun d=>if decide (l.length < lim) then .ok (.next (ρ.set i (some (.list (l++[d]))))) else .stuck
   | _=>.stuck):=rfl
theorem xE6 {i:Nat} {e:PE}:ex cf ρ (.update i e)=((slot ρ i).bind fun c=>match c with
   | .dict l=>(ev cf ρ e).bind fun d=>(match d with
    | .dict m=>if dfits l (.tup [])&&dfits m (.tup [])&&decide (l.length+m.length < lim)&&(!l.isEmpty||decide ((m.map fun p=>khash p.1).Nodup)) then .ok (.next (ρ.set i (some (.dict (dupd l m))))) else .stuck
    | _=>.stuck)
   | _=>.stuck):=rfl
theorem xE8 {c:PE} {a:List PS} {b:List PS}:ex cf ρ (.ite c a b)=((ev cf ρ c).bind fun x=>match x with | .bool t=>if t then exs cf ρ a else exs cf ρ b | _=>.stuck):=rfl
theorem xE9 {t:Tgt} {k:ItK} {src:List PE} {body:List PS}:ex cf ρ (.for_ t k src body)=((evs cf ρ src).bind fun xs=>(items k xs).bind fun ds=>noExc (forGo (fun ρ'=>exs cf ρ' body) t ds ρ)):=rfl
theorem xE10 {c:PE} {body:List PS}:ex cf ρ (.while_ c body)=(noExc (whileGo (fun ρ'=>ev cf ρ' c) (fun ρ'=>exs cf ρ' body) fuel ρ)):=rfl
theorem xE11 {e:PE}:ex cf ρ (.ret e)=((ev cf ρ e).bind fun d=>.ok (.ret d)):=rfl
theorem xE12 {e:PE}:ex cf ρ (.expr e)=((ev cf ρ e).bind (nil1 (.ok (.next ρ)))):=rfl
theorem xE13 {f:Nat} {l:List PE}:ex cf ρ (.tryR f l)=((evs cf ρ l).bind fun xs=>(cf (f+1000) xs).bind fun _=>.ok (.ret (.bool true))):=rfl
theorem xE15 {i:Nat} {b c d:PE}:ex cf ρ (.retMk i b c d)=(slot ρ i).bind fun x=>(ev cf ρ b).bind fun y=>(ev cf ρ c).bind fun z=>(ev cf ρ d).bind fun u=>(mk1 x y z u).bind fun d=>.ok (.ret d):=rfl
theorem exsN:exs cf ρ []=(.ok (.next ρ)):=rfl
theorem exsC {p:PS} {r:List PS}:exs cf ρ (p::r)=((ex cf ρ p).bind fun o=>match o with
   | .next ρ'=>exs cf ρ' r
   | .ret d=>.ok (.ret d)):=rfl
end
structure Fn where
 slots:Nat
 arity:Nat
 body:List PS
noncomputable def outVal:Out->PV
 | .ret d=>d
 | .next _=>.none
noncomputable def runFn (f:Fn) (cf:Nat->List PV->Res PV) (args:List PV):Res PV:=
 if args.length=f.arity then (exs cf (args.map some++List.replicate (f.slots-f.arity) Option.none) f.body).bind fun o=>.ok (outVal o) else .stuck
noncomputable def exr (cf:Nat->List PV->Res PV) (ρ:Slots):List PS->Res PV
 | .assign i e::.ite c [.halt] []::_=>(ev cf ρ e).bind fun d=>(ev cf (ρ.set i (some d)) c).bind fun x=>match x with | .bool b=>if b then .ok .none else .stuck | _=>.stuck
 | _=>.stuck
noncomputable def runR (f:Fn) (cf:Nat->List PV->Res PV) (args:List PV):Res PV:=
 if args.length=f.arity then exr cf (args.map some++List.replicate (f.slots-f.arity) Option.none) f.body else .stuck
noncomputable def callN (P:List Fn):Nat->Nat->List PV->Res PV
 | 0,_,_=>.stuck
 | n+1,f,args=>match P[f]? with
  | some fn=>runFn fn (callN P n) args
  | Option.none=>if 1000<=f then (match P[f-1000]? with
   | some fn=>runR fn (callN P n) args
   | Option.none=>.stuck) else .stuck
theorem callS {P:List Fn} {n f:Nat} {args:List PV} {fn:Fn} (h:P[f]?=some fn):callN P (n+1) f args=runFn fn (callN P n) args:=by
 show (match P[f]? with | some fn=>runFn fn (callN P n) args | Option.none=>_)=_
 rw [h]
section
variable {α β:Type} {cf:Nat->List PV->Res PV} {ρ:Slots} {a b:Int} {l m:List PV} {k:List (Key×PV)} {x y z:PV}
theorem bindK {a:α} {f:α->Res β}:(Res.ok a).bind f=f a:=rfl
theorem int2K {f:Int->Int->Res α}:int2 f (.int a) (.int b)=f a b:=rfl
theorem p1K {f:PV->Res PV}:p1 f [x]=f x:=rfl
theorem p2K {f:PV->PV->Res PV}:p2 f [x,y]=f x y:=rfl
theorem addVI:addV (.int a) (.int b)=.ok (.int (a+b)):=rfl
theorem addVL:addV (.list l) (.list m)=mkL (l++m):=rfl
theorem bopA:binop .add x y=addV x y:=rfl
theorem bopS:binop .sub x y=int2 (fun a b=>.ok (.int (a-b))) x y:=rfl
theorem bopM:binop .mul x y=mulV x y:=rfl
theorem mulVI:mulV (.int a) (.int b)=if big a||big b then .stuck else .ok (.int (a*b)):=rfl
theorem bopF:binop .fdiv x y=int2 (fun a b=>if b=0||decide (1073741824<=b.natAbs) then .stuck else .ok (.int (Int.fdiv a b))) x y:=rfl
theorem bopR:binop .mod x y=int2 (fun a b=>if b=0 then .stuck else .ok (.int (Int.fmod a b))) x y:=rfl
theorem copE:cmpop .eq x y=if x.flat&&y.flat&&decide (x.depth<=60) then .ok (PV.eq x y) else .stuck:=rfl
theorem copN:cmpop .ne x y=if x.flat&&y.flat&&decide (x.depth<=60) then .ok (!PV.eq x y) else .stuck:=rfl
theorem copLt:cmpop .lt x y=int2 (fun a b=>.ok (decide (a < b))) x y:=rfl
theorem copGt:cmpop .gt x y=int2 (fun a b=>.ok (decide (a > b))) x y:=rfl
theorem copNi:cmpop .notIn x y=(isin x y).bind fun r=>.ok (!r):=rfl
theorem ixL:index1 (.list l) x=indexIn l x:=rfl
theorem getIdxL:getIdx (.list l) (.int a)=if 0<=a then (match l[a.toNat]? with | some d=>.ok d | Option.none=>.stuck) else .stuck:=rfl
theorem sliceLL:slc (some (.int a)) Option.none (.list l)=.ok (.list (cut l (clip l.length a) l.length)):=rfl
theorem sliceHL:slc Option.none (some (.int b)) (.list l)=.ok (.list (cut l 0 (clip l.length b))):=rfl
theorem lenL:len1 (.list l)=.ok (.int l.length):=rfl
theorem absK:abs1 (.int a)=.ok (.int (if a < 0 then -a else a)):=rfl
theorem tupL:tuple1 (.list l)=.ok (.tuple l):=rfl
theorem intB {b:Bool}:int1 (.bool b)=.ok (.int (if b then 1 else 0)):=rfl
theorem prLen:prim .len l=p1 len1 l:=rfl
theorem prAbs:prim .abs l=p1 abs1 l:=rfl
theorem prRng:prim .listRange l=(items .range1 l).bind mkL:=rfl
theorem prTup:prim .tupleOf l=p1 tuple1 l:=rfl
theorem prInt:prim .intOf l=p1 int1 l:=rfl
theorem prMax:prim .max2 l=p2 (int2 fun a b=>.ok (.int (if a < b then b else a))) l:=rfl
theorem eqII:PV.eq (.int a) (.int b)=(a==b):=rfl
theorem eqsC:PV.eqs (x::l) (y::m)=(PV.eq x y&&PV.eqs l m):=rfl
theorem flatI:PV.flat (.int a)=true:=rfl
theorem flatsN:PV.flats []=true:=rfl
theorem flatsC:PV.flats (x::l)=(PV.flat x&&PV.flats l):=rfl
theorem depI:PV.depth (.int a)=0:=rfl
theorem immI:PV.imm (.int a)=true:=rfl
theorem immT:PV.imm (.tuple l)=PV.imms l:=rfl
theorem immsN:PV.imms []=true:=rfl
theorem immsC:PV.imms (x::l)=(PV.imm x&&PV.imms l):=rfl
theorem sameII {i j:Int}:Key.same (.int i) (.int j)=true:=rfl
theorem sameTT {i j:List Int}:Key.same (.tup i) (.tup j)=true:=rfl
theorem keyI:PV.key? (.int a)=some (.int a):=rfl
theorem keyT:PV.key? (.tuple l)=(PV.ints? l).map .tup:=rfl
theorem intsN:PV.ints? []=some []:=rfl
theorem intsC:PV.ints? (.int a::l)=(PV.ints? l).map (a::·):=rfl
theorem tgt1 {i:Nat}:setTgt (.one i) x ρ=.ok (ρ.set i (some x)):=rfl
theorem tgtM {is:List Nat}:setTgt (.many is) (.tuple l) ρ=if is.length=l.length then .ok ((is.zip l).foldl (fun ρ p=>ρ.set p.1 (some p.2)) ρ) else .stuck:=rfl
theorem clr1 {i:Nat}:clr (.one i) ρ=ρ.set i Option.none:=rfl
theorem outR:outVal (.ret x)=x:=rfl
theorem forN {g:Slots->Res Out} {t:Tgt}:forGo g t [] ρ=.ok (.next ρ):=rfl
theorem forC {g:Slots->Res Out} {t:Tgt}:forGo g t (x::l) ρ=(setTgt t x ρ).bind fun ρ'=>(g ρ').bind fun o=>match o with
   | .next ρ''=>forGo g t l ρ''
   | .ret d=>.ok (.ret d):=rfl
theorem compC {g:Slots->Res PV} {h:Slots->Res Bool} {t:Tgt}:compGo g h t (x::l) ρ=(setTgt t x ρ).bind fun ρ'=>(h ρ').bind fun b=>
   if b then (g ρ').bind fun x=>(compGo g h t l ρ').bind fun xs=>.ok (x::xs) else compGo g h t l ρ':=rfl
end
end Mine.Internal
end
section
set_option maxRecDepth 100000
namespace Mine.Internal
open PySem PySem.Spec PySem.W PySem.Calls PyProof.Rows Builtin Builtin.ObjectAttr Builtin.Getset_descriptor
noncomputable def excOk (K:Frag) (C:Addr):Bool:=
 (clsIn K C).isSome&&mroIn K C (.type "object")==some true&&mroIn K C (.type "BaseException")==some true &&
 findIn K (.ref C) "__getattribute__" == some (some (.builtin "BaseException.__getattribute__"))&&findIn K (.ref C) "__getattr__" == some none&&findIn K (.ref C) "__class__" == some (some (.builtin "object.__class__")) &&
 specialIn K (.builtin "object.__class__") "__get__" == some (some (.builtin "getset_descriptor.__get__"))&&takesIn K (.builtin "object.__class__")==some true
section
variable {prog:Program} {w:World} {A:Around} {E:Value->Shared->Prop} {s:Shared} {K:Frag} {x C D:Addr} {ox:Obj}
theorem isType_in {M:Model} {h:Heap} (X:K.In h) (e:(clsIn K C).isSome=true):Looks M h (isType (.ref C)) true:=by
 unfold clsIn at e
 split at e
 ·rename_i c d cd sl ho
  intro A Q E s k q
  unfold isType loadHead
  exact wpAny_bind (wpAny_loadPart (k _ _ (X _ _ ho)) (wpAny_pure q))
 ·cases e
theorem class_got {tp:Value} {R:Result->Shared->Prop} (L0:Looks (model prog w) s.heap (typeOf (.ref x)) (.ref C)) (X:K.In s.heap) (hm:mroIn K C (.type "object")=some true)
  (h:R (.ok (.ret (.ref C))) s):codeAny (model prog w) A (.call (.builtin "getset_descriptor.__get__") ⟨[.builtin "object.__class__",.ref x,tp],[]⟩) R s:=by
 obtain ⟨hh,g,dr,t,os⟩:=s
 have L1:=looks_mroIn (M:=model prog w) X hm
 refine codeAny_call_builtin KF.slot_gs.plain KF.entry_gs (KF.slot_gs.check _ _ _ _ _ _ _ _ KF.type_class (KF.args_gs _ _ _) ?_)
 unfold Builtin.«getset_descriptor.__get__» descrGet
 rw [dga_obj]
 refine wpAny_bind (wpAny_pure ?_)
 unfold descrGetter descrCheckInstance descrNameAndClass isInstance
 simp only [KF.owner_class]
 repeat lk
 refine ⟨Code.quiet_builtin _ (by decide +kernel),codeAny_builtin KF.entry_class ?_⟩
 unfold Builtin.«object.__class__» shownTypeOf
 repeat lk
 exact h
theorem ga_entry {tk:Tok} {Q:Fin->Shared->Prop} (L0:Looks (model prog w) s.heap (typeOf (.ref x)) (.ref C)) (L2:Looks (model prog w) s.heap (find (.ref x) (.ref C) "__class__") (.bind (.builtin "getset_descriptor.__get__") (.builtin "object.__class__")))
  (X:K.In s.heap) (e5:mroIn K C (.type "object")=some true) (h:Q (.done (.ret (.ref C))) s):wpAny (model prog w) A (Builtin.«object.__getattribute__» ⟨[.ref x,.str "__class__" tk],[]⟩) Q E s:=by
 obtain ⟨hh,g,d,t,os⟩:=s
 unfold Builtin.«object.__getattribute__»
 refine wpAny_bind (wpAny_of_eq (a:=(Value.ref x,[Value.str "__class__" tk])) (by rfl) ?_)
 dsimp only
 refine wpAny_bind (wpAny_of_eq (a:=("__class__" : Str)) (by rfl) ?_)
 refine wpAny_bind (L0.at (wpAny_bind (L2.at ?_)))
 show wpAny _ _ (holding [Value.builtin "object.__class__"] (call (.builtin "getset_descriptor.__get__") [.builtin "object.__class__",.ref x,.ref C]) >>= ret) _ _ _
 exact wpAny_bind (wpAny_holding (wpAny_call (class_got (s:=⟨hh,g,d,t,os⟩) L0 X e5 (wpAny_pure h))))
theorem ga_call {tk:Tok} {R:Result->Shared->Prop} (L0:Looks (model prog w) s.heap (typeOf (.ref x)) (.ref C)) (L2:Looks (model prog w) s.heap (find (.ref x) (.ref C) "__class__") (.bind (.builtin "getset_descriptor.__get__") (.builtin "object.__class__")))
  (X:K.In s.heap) (e5:mroIn K C (.type "object")=some true) (e11:mroIn K C (.type "BaseException")=some true) (h:R (.ok (.ret (.ref C))) s):codeAny (model prog w) A (.call (.builtin "BaseException.__getattribute__") ⟨[.ref x,.str "__class__" tk],[]⟩) R s:=by
 have L4:Looks (model prog w) s.heap (isInstance (.ref x) (.type "BaseException")) true:=L0.andThen (looks_mroIn X e11)
 have hk:builtinKind "BaseException.__getattribute__" = some .slot:=by decide +kernel
 have hsp:splitId "BaseException.__getattribute__" = some ("BaseException","__getattribute__"):=by decide +kernel
 have ha:=F.args_bexc_ga (.ref x) (.str "__class__" tk)
 have hck:∀ (A:Around) (Q:Unit->Shared->Prop) (E:Value->Shared->Prop),Q () s->wpAny (model prog w) A (checkBuiltinCall "BaseException.__getattribute__" ⟨[.ref x,.str "__class__" tk],[]⟩) Q E s:=fun A Q E q=>check_slot (i := "BaseException.__getattribute__") (self:=.ref x) (rest:=[.str "__class__" tk]) (kw:=[]) hk hsp L4 ha q
 exact codeAny_call_builtin F.excAttr_ValueError.ga.plain F.entry_bexc_ga (hck _ _ _ (ga_entry L0 L2 X e5 h))
theorem class_of {Q:Option Value->Shared->Prop} (hx:s.heap.get? x=some ox) (hc:ox.cls=.ref C) (X:K.In s.heap) (e:excOk K C=true) (h:Q (some (.ref C)) { s with toks:=s.toks+1 }):
  wpAny (model prog w) A (getAttr? (.ref x) "__class__") Q E s:=by
 unfold excOk at e
 simp only [Bool.and_eq_true,beq_iff_eq] at e
 obtain ⟨⟨⟨⟨⟨⟨⟨e1,e5⟩,e11⟩,e6⟩,e7⟩,e8⟩,e9⟩,e10⟩:=e
 obtain ⟨hh,g,d,t,os⟩:=s
 have L0:Looks (model prog w) hh (typeOf (.ref x)) (.ref C):=hc ▸ (Looks.ld hx).andThen .now
 have L1:=looks_findIn (M:=model prog w) X e6
 have L2:Looks (model prog w) hh (find (.ref x) (.ref C) "__class__") (.bind (.builtin "getset_descriptor.__get__") (.builtin "object.__class__")):=
  (looks_findIn X e8).andThen ((looks_specialIn X e9).andThen ((show Looks (model prog w) hh (dataDescriptor? (some (.builtin "object.__class__")) (some (.builtin "getset_descriptor.__get__"))) (some (.builtin "getset_descriptor.__get__",.builtin "object.__class__")) from (looks_takesIn X e10).andThen .now).andThen (Looks.tag .now)))
 have L3:=looks_findIn (M:=model prog w) X e7
 unfold getAttr? getAttrBy? getAttrBy
 refine wpAny_bind (wpAny_mkText (wpAny_bind (wpAny_attempt (wpAny_holding (wpAny_bind (L0.at (wpAny_bind (L1.at ?_))))))))
 dsimp only
 rw [if_neg (show ¬ ((onTheHeap (Value.ref C)&&Value.builtin "BaseException.__getattribute__" == Value.builtin "object.__getattribute__")=true) from fun q=>absurd (Bool.and_eq_true_iff.mp q).2 (by decide +kernel))]
 unfold getAttrByItsOwn hookBefore
 rw [if_pos (show onTheHeap (Value.ref C)=true from rfl)]
 refine wpAny_bind (L3.at (wpAny_bind (wpAny_attempt (wpAny_holding ?_))))
 unfold callGetattribute
 rw [if_neg (by decide)]
 unfold boundAndCalled
 rw [F.excAttr_ValueError.ga.bind (.ref x)]
 refine wpAny_bind (wpAny_pure (wpAny_call (ga_call (s:=⟨hh,g,d,t+1,os⟩) L0 L2 X e5 e11 ?_)))
 show wpAny _ _ (handedOut (.ref C)) _ _ _
 rw [handedOut_of rfl]
 exact wpAny_pure (wpAny_pure h)
theorem kitx_exc (e:excOk K C=true):KitX K (.ref x) (.ref C) (fun h=>∃ o,h.get? x=some o/\o.cls=.ref C) where
 ty:=fun _ _ _ ⟨_,hx,hc⟩=>hc ▸ (Looks.ld hx).andThen .now
 it:=fun _ _ X _=>isType_in X (by unfold excOk at e;simp only [Bool.and_eq_true] at e;exact e.1.1.1.1.1.1.1)
 ne:=fun h tp dd its n sl X htp=>by
  refine Bool.eq_false_iff.mpr fun q=>?_
  have e2:C=tp:=Value.ref.inj (beq_iff_eq.mp q)
  subst e2
  have e1:(clsIn K C).isSome=true:=by unfold excOk at e;simp only [Bool.and_eq_true] at e;exact e.1.1.1.1.1.1.1
  unfold clsIn at e1
  split at e1
  ·rename_i ho
   have z:=(X _ _ ho).symm.trans htp
   cases z
  ·cases e1
 ca:=fun X ⟨_,hx,hc⟩ k=>class_of hx hc X e k
end
noncomputable def xcOk (K:Frag) (C D R:Addr):Bool:=excOk K C&&kitOne K (.ref C) (.ref D)==some false&&kitOne K (.ref C) (.type "ValueError")==some true&&exmOne K (.ref C) (.ref R)==some true
noncomputable def XcAt (mg:Str->Option Value) (h:Heap):Prop:=∃ (K:Frag) (C D R:Addr),K.In h/\mg ("NotFalling" : Str)=some (.ref C)/\mg ("NoDrawing" : Str)=some (.ref D)/\mg ("RopeError" : Str)=some (.ref R)/\xcOk K C D R=true
noncomputable def cdOf (h:Heap) (a:Addr):Option ClassData:=(h.get? a).bind fun o=>match o.data with | .cls cd=>some cd | _=>none
noncomputable def refA:Value->Option Addr
 | .ref a=>some a
 | _=>none
noncomputable def fragOf (h:Heap) (C D:Addr):Frag:=
 ((D::(match cdOf h C with | some cd=>cd.mro.filterMap refA | none=>[])).flatMap fun a=>match cdOf h a with | some cd=>[a,cd.ns] | none=>[]).filterMap fun a=>(h.get? a).map fun o=>(a,o)
noncomputable def xcAt (s:Shared):Bool:=match s.heap.nsMap mainGlobals ("NotFalling" : Str),s.heap.nsMap mainGlobals ("NoDrawing" : Str),s.heap.nsMap mainGlobals ("RopeError" : Str) with
 | some (.ref C),some (.ref D),some (.ref R)=>xcOk (fragOf s.heap C D) C D R
 | _,_,_=>false
theorem fragOf_in (h:Heap) (as:List Addr):Frag.In (as.filterMap fun a=>(h.get? a).map fun o=>(a,o)) h:=by
 intro a o e
 induction as with
 | nil=>cases e
 | cons b as ih=>
  rw [List.filterMap_cons] at e
  cases q:h.get? b with
  | none=>rw [q] at e;exact ih e
  | some ob=>
   rw [q] at e
   simp only [Option.map_some,List.lookup_cons] at e
   split at e
   ·rename_i hb
    cases e
    rw [eq_of_beq hb];exact q
   ·exact ih e
theorem xc_of (s:Shared) (h:xcAt s=true):XcAt (s.heap.nsMap mainGlobals) s.heap:=by
 unfold xcAt at h
 split at h
 ·rename_i C D R h1 h2 h3
  exact ⟨_,C,D,R,fragOf_in _ _,h1,h2,h3,h⟩
 ·cases h
theorem XcAt.keeps {mg:Str->Option Value} {h h':Heap} (x:XcAt mg h) (k:∀ b o,h.get? b=some o->h'.get? b=some o):XcAt mg h':=let ⟨K,C,D,R,hK,r⟩:=x;⟨K,C,D,R,hK.keeps k,r⟩
end Mine.Internal
end
section
set_option backward.eqns.nonrecursive false
namespace Mine.Internal
open PySem PySem.Spec PyProof.Rows
noncomputable def view2:Program:={ PySem.Challenge.pw_uf030002_09 with main:={ PySem.Challenge.pw_uf030002_09.main with body:=PySem.Challenge.pw_uf030002_09.main.body.filter fun s=>match s with | .Assign [.Name x _] (.Constant (.str _) _ _) _=>!(x==("__name__" : Str)) | _=>true } }
noncomputable def prog:Program:=PySem.Challenge.pw_uf030002_09
noncomputable def arcRec:ClsRec:=((plainsOf view2 (PySem.W.looseW view2 [])).find? fun c=>c.name==("Arc" : Str)).getD ⟨"",none,[],[],0,[]⟩
noncomputable def ArcAt (mg:Str->Option Value) (h:Heap) (C:Addr):Prop:=mg ("Arc" : Str)=some (.ref C)/\∃ N mN,PlainAt h arcRec C N mN
def PP (p:World×Addr):Prop:=∀ (s₁:Shared) (mean:ExcName->Option Value) (mg mb:Str->Option Value) (fa a:Addr) (vs:List Value) (ns:List Int),PyProof.Rows.Top view2 (PySem.W.looseW view2 []) mean mg mb s₁.heap->ArcAt mg s₁.heap p.2->XcAt mg s₁.heap->mg ("law" : Str)=some (.ref fa) ->
 s₁.heap.get? a=some { cls:=.type "list",data:=.seq vs.toArray }->PyProof.Rows.IntsAre vs ns->ns.length<=63 ->
 codeAny (model prog p.1) callerA (.call (.ref fa) ⟨[.ref a],[]⟩) (fun r s'=>r=.ok (.ret (.bool true))/\(∀ b o,s₁.heap.get? b=some o->s'.heap.get? b=some o)/\∃ h' tk,s'={ s₁ with heap:=h',toks:=tk }) s₁
theorem wNe:Nonempty (World×Addr):=⟨(PySem.W.aWorld 0,0)⟩
noncomputable def wc:World×Addr:=@Classical.epsilon (World×Addr) wNe fun p=>¬ PP p
noncomputable def w:World:=wc.1
noncomputable def CA:Addr:=wc.2
theorem pp_all (h:PP wc) (v:World×Addr):PP v:=Classical.byContradiction fun q=>@Classical.epsilon_spec (World×Addr) (fun p=>¬ PP p) ⟨v,q⟩ h
noncomputable def SeqAt (h:Heap) (T:String) (a:Addr) (vs:Array Value):Prop:=∃ n,h.get? a=some { cls:=.type T,dict:=Option.none,data:=.seq vs n,slots:=#[] }
section
noncomputable def TKs (h:Heap) (xs:List (List Int×Addr×Value)):Prop:=∀ x∈xs,∃ us,SeqAt h "tuple" x.2.1 us/\us.size<=lim
noncomputable def DictRep (h:Heap) (a:Addr) (ks:List Key) (vs:List Value):Prop:=
 (∃ kvs:List (Int×Value),h.DictOf (intKind prog w) a kvs/\ks=kvs.map (fun p=>Key.int p.1)/\vs=kvs.map (·.2)) \/
 (∃ xs:List (List Int×Addr×Value),h.DictOfH (tupleKind (intKind prog w)) a xs/\ks=xs.map (fun p=>Key.tup p.1)/\vs=xs.map (·.2.2)/\TKs h xs)
inductive TAt (h:Heap) (v:Value) (n:Nat) (R:List Value->Prop):Prop where
 | mk (a:Addr) (vs:Array Value) (e:v=.ref a) (q:SeqAt h "tuple" a vs) (ln:n<=lim) (r:R vs.toList)
inductive LAt (h:Heap) (O:Addr->Prop) (v:Value) (n:Nat) (R:List Value->Prop):Prop where
 | mk (a:Addr) (vs:Array Value) (e:v=.ref a) (pa:O a) (q:SeqAt h "list" a vs) (ln:n<=lim) (r:R vs.toList)
inductive DAt (h:Heap) (O:Addr->Prop) (v:Value) (l:List (Key×PV)) (R:List Value->Prop):Prop where
 | mk (a:Addr) (vs:List Value) (e:v=.ref a) (pa:O a) (n1:a≠1) (ln:l.length<=lim) (q:DictRep h a (l.map (·.1)) vs) (r:R vs)
inductive CAt (vs:List Value) (A:Value->Prop) (B:List Value->Prop):Prop where
 | mk (v:Value) (r:List Value) (e:vs=v::r) (a:A v) (b:B r)
structure AMap (m:Str->Option Value) (a t:Addr) (kd:Str) (f l:Int):Prop where
 th:m ("things" : Str)=some (.ref a)
 tu:m ("turns" : Str)=some (.ref t)
 kd:∃ k,m ("kind" : Str)=some (.str kd k)
 fr:∃ k,m ("fresh" : Str)=some (.int f k)
 lf:∃ k,m ("left" : Str)=some (.int l k)
 no:∀ x,x∉(["things","turns","kind","fresh","left"]:List Str)->m x=none
inductive OAt (h:Heap) (O:Addr->Prop) (v:Value) (n:List PV) (tu:List (Key×PV)) (kd:Str) (f l:Int) (R1 R2:List Value->Prop):Prop where
 | mk (x dx a t:Addr) (m:Str->Option Value) (vs:Array Value) (us:List Value) (e:v=.ref x) (ox:O x) (od:O dx) (oa:O a) (ot:O t)
  (hx:∃ o,h.get? x=some o/\o.cls=.ref CA/\o.dict=some dx/\o.data=.plain) (ns:h.Ns1 dx m) (am:AMap m a t kd f l) (sk:PyData.strOk kd=true) (ne:dx≠t)
  (im:PV.imms n=true/\PV.imms (tu.map (·.2))=true) (q:SeqAt h "list" a vs) (ln:n.length<=lim) (r:R1 vs.toList) (n1:t≠1) (lt:tu.length<=lim) (dq:DictRep h t (tu.map (·.1)) us) (dr:R2 us)
variable (h:Heap) (P:Addr->Prop)
mutual
noncomputable def Rd:PV->Value->Prop
 | .none,v=>v=.none
 | .bool b,v=>v=.bool b
 | .int i,v=>∃ t,v=.int i t
 | .tuple l,v=>TAt h v l.length (Rds l)
 | .list l,v=>LAt h P v l.length (Rds l)
 | .dict l,v=>DAt h P v l (RdKV l)
 | .str x,v=>PyData.strOk x=true/\∃ t,v=.str x t
 | .obj th tu kd f l,v=>OAt h P v th tu kd f l (Rds th) (RdKV tu)
noncomputable def Rds:List PV->List Value->Prop
 | [],vs=>vs=[]
 | d::ds,vs=>CAt vs (Rd d) (Rds ds)
noncomputable def RdKV:List (Key×PV)->List Value->Prop
 | [],vs=>vs=[]
 | (_,d)::ds,vs=>CAt vs (Rd d) (RdKV ds)
end
noncomputable def RdO (O:Addr->Prop):PV->Value->Prop
 | .list l,v=>LAt h O v l.length (Rds h P l)
 | .dict l,v=>DAt h O v l (RdKV h P l)
 | .obj th tu kd f l,v=>OAt h O v th tu kd f l (Rds h P th) (RdKV h P tu)
 | d,v=>Rd h P d v
end
noncomputable def LD (o:Obj):Prop:=(o.cls=.type "list" \/ o.cls=.type "dict")\/o.cls=.ref CA\/∃ es n,o.data=.dict es n
noncomputable def Mine1 (P:Addr->Prop) (a:Addr) (o:Obj):Prop:=
 (∃ vs n,o.data=.seq vs n/\(o.cls=.type "tuple" \/ (P a/\o.cls=.type "list")))\/(∃ es n,o.data=.dict es n/\P a)\/(o.data=.plain/\P a)
noncomputable def Kp (P:Addr->Prop) (h h':Heap):Prop:=∀ a o,h.get? a=some o->Mine1 P a o->h'.get? a=some o
section
variable {h h':Heap} {P P':Addr->Prop}
theorem SeqAt.to {T:String} {a:Addr} {vs:Array Value} (x:SeqAt h T a vs) (k:∀ o n,h.get? a=some o->o.cls=.type T->o.data=.seq vs n->h'.get? a=some o):SeqAt h' T a vs:=
 let ⟨n,ho⟩:=x;⟨n,k _ n ho rfl rfl⟩
theorem SeqAt.isTuple {a:Addr} {vs:Array Value} (x:SeqAt h "tuple" a vs):h.IsTuple a vs:=let ⟨n,ho⟩:=x;⟨_,ho,rfl,n,rfl⟩
theorem isTupleKey_to {ks:List Int} {a:Addr} (k:Kp P h h') (x:IsTupleKey (intKind prog w) h ks a):IsTupleKey (intKind prog w) h' ks a:=
 let ⟨o,it,n,ho,hc,hd,r⟩:=x;⟨o,it,n,k a o ho (.inl ⟨_,_,hd,.inl hc⟩),hc,hd,r⟩
theorem TKs.to {xs:List (List Int×Addr×Value)} (k:Kp P h h') (x:TKs h xs):TKs h' xs:=fun y hy=>
 let ⟨us,q,l⟩:=x y hy;⟨us,q.to fun o _ ho hc hd=>k _ o ho (.inl ⟨_,_,hd,.inl hc⟩),l⟩
theorem DictRep.to {a:Addr} {ks:List Key} {vs:List Value} (k:Kp P h h') (pa:P a) (x:DictRep h a ks vs):DictRep h' a ks vs:=by
 rcases x with ⟨kvs,⟨o,es,ep,ho,hx,hd,r⟩,e⟩ | ⟨xs,⟨o,es,ep,ho,hx,hd,he,hk,hn⟩,e,e',e2⟩
 ·exact .inl ⟨kvs,⟨o,es,ep,k a o ho (.inr (.inl ⟨_,_,hd,pa⟩)),hx,hd,r⟩,e⟩
 ·exact .inr ⟨xs,⟨o,es,ep,k a o ho (.inr (.inl ⟨_,_,hd,pa⟩)),hx,hd,he,fun x hm=>isTupleKey_to k (hk x hm),hn⟩,e,e',e2.to k⟩
theorem OAt.to {O:Addr->Prop} {v:Value} {n:List PV} {tu:List (Key×PV)} {kd:Str} {f l:Int} {R1 R2 R1' R2':List Value->Prop} (_k:Kp P h h') (ko:Kp O h h') (k1:∀ {vs},R1 vs->R1' vs) (k2:∀ {vs},R2 vs->R2' vs) (x:OAt h O v n tu kd f l R1 R2):OAt h' O v n tu kd f l R1' R2':=by
 obtain ⟨x,dx,a,t,m,vs,us,e,ox,od,oa,ot,⟨o,ho,hc,hd,hp⟩,ns,am,sk,ne,im,q,ln,r,n1,lt,dq,dr⟩:=x
 refine ⟨x,dx,a,t,m,vs,us,e,ox,od,oa,ot,⟨o,ko x o ho (.inr (.inr ⟨hp,ox⟩)),hc,hd,hp⟩,?_,am,sk,ne,im,q.to fun o _ ho hc hd=>ko a o ho (.inl ⟨_,_,hd,.inr ⟨oa,hc⟩⟩),ln,k1 r,n1,lt,dq.to ko ot,k2 dr⟩
 obtain ⟨o,es,ep,e1,e2,r⟩:=ns
 exact ⟨o,es,ep,ko dx o e1 (.inr (.inl ⟨_,_,e2,od⟩)),e2,r⟩
theorem OAt.imp {O O':Addr->Prop} {v:Value} {n:List PV} {tu:List (Key×PV)} {kd:Str} {f l:Int} {R1 R2 R1' R2':List Value->Prop} (ko:∀ a o,h.get? a=some o->LD o->O a->O' a) (k1:∀ {vs},R1 vs->R1' vs) (k2:∀ {vs},R2 vs->R2' vs) (x:OAt h O v n tu kd f l R1 R2):OAt h O' v n tu kd f l R1' R2':=by
 obtain ⟨x,dx,a,t,m,vs,us,e,ox,od,oa,ot,hx,ns,am,sk,ne,im,q,ln,r,n1,lt,dq,dr⟩:=x
 refine ⟨x,dx,a,t,m,vs,us,e,?_,?_,?_,?_,hx,ns,am,sk,ne,im,q,ln,k1 r,n1,lt,dq,k2 dr⟩
 ·obtain ⟨o,ho,hc,_⟩:=hx;exact ko x o ho (.inr (.inl hc)) ox
 ·obtain ⟨o,es,ep,e1,e2,_⟩:=ns;exact ko dx o e1 (.inr (.inr ⟨_,_,e2⟩)) od
 ·obtain ⟨_,ho⟩:=q;exact ko a _ ho (.inl (.inl rfl)) oa
 ·rcases dq with ⟨_,⟨o,_,_,ho,hx,_⟩,_⟩ | ⟨_,⟨o,_,_,ho,hx,_⟩,_⟩<;>exact ko t o ho (.inl (.inr hx.1)) ot
mutual
theorem Rd.to (k:Kp P h h'):∀ (d:PV) {v:Value},Rd h P d v->Rd h' P d v
 | .none,_,x=>x
 | .bool _,_,x=>x
 | .int _,_,x=>x
 | .tuple l,_,⟨a,vs,e,q,n,r⟩=>⟨a,vs,e,q.to fun o _ ho hc hd=>k a o ho (.inl ⟨_,_,hd,.inl hc⟩),n,Rds.to k l r⟩
 | .list l,_,⟨a,vs,e,pa,q,n,r⟩=>⟨a,vs,e,pa,q.to fun o _ ho hc hd=>k a o ho (.inl ⟨_,_,hd,.inr ⟨pa,hc⟩⟩),n,Rds.to k l r⟩
 | .dict l,_,⟨a,vs,e,pa,n1,n,q,r⟩=>⟨a,vs,e,pa,n1,n,q.to k pa,RdKV.to k l r⟩
 | .str _,_,x=>x
 | .obj th tu _ _ _,_,o=>OAt.to k k (Rds.to k th) (RdKV.to k tu) o
theorem Rds.to (k:Kp P h h'):∀ (l:List PV) {vs:List Value},Rds h P l vs->Rds h' P l vs
 | [],_,x=>x
 | d::ds,_,⟨v,r,e,a,b⟩=>⟨v,r,e,Rd.to k d a,Rds.to k ds b⟩
theorem RdKV.to (k:Kp P h h'):∀ (l:List (Key×PV)) {vs:List Value},RdKV h P l vs->RdKV h' P l vs
 | [],_,x=>x
 | (_,d)::ds,_,⟨v,r,e,a,b⟩=>⟨v,r,e,Rd.to k d a,RdKV.to k ds b⟩
end
mutual
theorem Rd.imp (k:∀ a o,h.get? a=some o->LD o->P a->P' a):∀ (d:PV) {v:Value},Rd h P d v->Rd h P' d v
 | .none,_,x=>x
 | .bool _,_,x=>x
 | .int _,_,x=>x
 | .tuple l,_,⟨a,vs,e,q,n,r⟩=>⟨a,vs,e,q,n,Rds.imp k l r⟩
 | .list l,_,⟨a,vs,e,pa,q,n,r⟩=>⟨a,vs,e,(let ⟨_,ho⟩:=q;k a _ ho (.inl (.inl rfl)) pa),q,n,Rds.imp k l r⟩
 | .dict l,_,⟨a,vs,e,pa,n1,n,q,r⟩=>⟨a,vs,e,(by
   rcases q with ⟨_,⟨o,_,_,ho,hx,_⟩,_⟩ | ⟨_,⟨o,_,_,ho,hx,_⟩,_⟩<;>exact k a o ho (.inl (.inr hx.1)) pa),n1,n,q,RdKV.imp k l r⟩
 | .str _,_,x=>x
 | .obj th tu _ _ _,_,o=>OAt.imp k (Rds.imp k th) (RdKV.imp k tu) o
theorem Rds.imp (k:∀ a o,h.get? a=some o->LD o->P a->P' a):∀ (l:List PV) {vs:List Value},Rds h P l vs->Rds h P' l vs
 | [],_,x=>x
 | d::ds,_,⟨v,r,e,a,b⟩=>⟨v,r,e,Rd.imp k d a,Rds.imp k ds b⟩
theorem RdKV.imp (k:∀ a o,h.get? a=some o->LD o->P a->P' a):∀ (l:List (Key×PV)) {vs:List Value},RdKV h P l vs->RdKV h P' l vs
 | [],_,x=>x
 | (_,d)::ds,_,⟨v,r,e,a,b⟩=>⟨v,r,e,Rd.imp k d a,RdKV.imp k ds b⟩
end
mutual
theorem Rd.ofImm:∀ (d:PV) {v:Value},d.imm=true->Rd h P d v->Rd h P' d v
 | .none,_,_,x=>x
 | .bool _,_,_,x=>x
 | .int _,_,_,x=>x
 | .tuple l,_,i,⟨a,vs,e,q,n,r⟩=>⟨a,vs,e,q,n,Rds.ofImm l (by simpa [PV.imm] using i) r⟩
 | .list l,_,i,_=>by simp [PV.imm] at i
 | .dict l,_,i,_=>by simp [PV.imm] at i
 | .str _,_,_,x=>x
 | .obj ..,_,i,_=>by cases i
theorem Rds.ofImm:∀ (l:List PV) {vs:List Value},PV.imms l=true->Rds h P l vs->Rds h P' l vs
 | [],_,_,x=>x
 | d::ds,_,i,⟨v,r,e,a,b⟩=>by
  simp only [PV.imms,Bool.and_eq_true] at i
  exact ⟨v,r,e,Rd.ofImm d i.1 a,Rds.ofImm ds i.2 b⟩
end
theorem RdKV.ofImm:∀ (l:List (Key×PV)) {vs:List Value},PV.imms (l.map (·.2))=true->RdKV h P l vs->RdKV h P' l vs
 | [],_,_,x=>x
 | (_,d)::ds,_,i,⟨v,r,e,a,b⟩=>by
  simp only [List.map_cons,PV.imms,Bool.and_eq_true] at i
  exact ⟨v,r,e,Rd.ofImm d i.1 a,RdKV.ofImm ds i.2 b⟩
theorem Rds.length:∀ {l:List PV} {vs:List Value},Rds h P l vs->vs.length=l.length
 | [],_,x=>by rw [show _=_ from x];rfl
 | d::ds,_,⟨v,r,e,a,b⟩=>by subst e;simp [Rds.length b]
theorem Rds.get:∀ {l:List PV} {vs:List Value} {i:Nat} {d:PV},Rds h P l vs->l[i]?=some d->∃ v,vs[i]?=some v/\Rd h P d v
 | [],_,_,_,_,e=>by simp at e
 | d::ds,_,0,_,⟨v,r,e,a,b⟩,q=>by subst e;simp at q;subst q;exact ⟨v,rfl,a⟩
 | d::ds,_,i+1,_,⟨v,r,e,a,b⟩,q=>by
  subst e
  simp only [List.getElem?_cons_succ] at q ⊢
  exact Rds.get b q
theorem Rds.none:∀ {l:List PV} {vs:List Value} {i:Nat},Rds h P l vs->l[i]?=Option.none->vs[i]?=Option.none:=fun x e=>by
 have:=x.length
 simp only [List.getElem?_eq_none_iff] at e ⊢
 exact o286 this e
theorem Rds.append:∀ {l m:List PV} {vs us:List Value},Rds h P l vs->Rds h P m us->Rds h P (l++m) (vs++us)
 | [],_,_,_,x,y=>by rw [show _=_ from x];exact y
 | d::ds,_,_,_,⟨v,r,e,a,b⟩,y=>by subst e;exact ⟨v,r++_,rfl,a,b.append y⟩
theorem Rds.drop:∀ {l:List PV} {vs:List Value} (n:Nat),Rds h P l vs->Rds h P (l.drop n) (vs.drop n)
 | _,_,0,x=>x
 | [],_,n+1,x=>by rw [show _=_ from x];rfl
 | d::ds,_,n+1,⟨v,r,e,a,b⟩=>by subst e;exact b.drop n
theorem Rds.take:∀ {l:List PV} {vs:List Value} (n:Nat),Rds h P l vs->Rds h P (l.take n) (vs.take n)
 | _,_,0,_=>rfl
 | [],_,n+1,x=>by rw [show _=_ from x];rfl
 | d::ds,_,n+1,⟨v,r,e,a,b⟩=>by subst e;exact ⟨v,r.take n,rfl,a,b.take n⟩
theorem Rds.one {d:PV} {v:Value} (x:Rd h P d v):Rds h P [d] [v]:=⟨v,[],rfl,x,rfl⟩
theorem RdO.imp {O O':Addr->Prop} {d:PV} {v:Value} (ko:∀ a o,h.get? a=some o->LD o->O a->O' a) (k:∀ a o,h.get? a=some o->LD o->P a->P' a) (x:RdO h P O d v):RdO h P' O' d v:=by
 cases d with
 | list l=>obtain ⟨a,vs,e,pa,q,n,r⟩:=x;exact ⟨a,vs,e,(let ⟨_,ho⟩:=q;ko a _ ho (.inl (.inl rfl)) pa),q,n,Rds.imp k l r⟩
 | dict l=>
  obtain ⟨a,vs,e,pa,n1,n,q,r⟩:=x
  exact ⟨a,vs,e,(by rcases q with ⟨_,⟨o,_,_,ho,hx,_⟩,_⟩ | ⟨_,⟨o,_,_,ho,hx,_⟩,_⟩<;>exact ko a o ho (.inl (.inr hx.1)) pa),n1,n,q,RdKV.imp k l r⟩
 | none=>exact x
 | bool _=>exact x
 | int _=>exact x
 | str _=>exact x
 | obj th tu _ _ _=>exact OAt.imp ko (Rds.imp k th) (RdKV.imp k tu) x
 | tuple l=>exact Rd.imp k (.tuple l) x
theorem RdO.to {O:Addr->Prop} {d:PV} {v:Value} (k:Kp P h h') (ko:Kp O h h') (x:RdO h P O d v):RdO h' P O d v:=by
 cases d with
 | list l=>obtain ⟨a,vs,e,pa,q,n,r⟩:=x;exact ⟨a,vs,e,pa,q.to fun o _ ho hc hd=>ko a o ho (.inl ⟨_,_,hd,.inr ⟨pa,hc⟩⟩),n,Rds.to k l r⟩
 | dict l=>obtain ⟨a,vs,e,pa,n1,n,q,r⟩:=x;exact ⟨a,vs,e,pa,n1,n,q.to ko pa,RdKV.to k l r⟩
 | none=>exact x
 | bool _=>exact x
 | int _=>exact x
 | str _=>exact x
 | obj th tu _ _ _=>exact OAt.to k ko (Rds.to k th) (RdKV.to k tu) x
 | tuple l=>exact Rd.to k (.tuple l) x
theorem RdO.rd {O:Addr->Prop} {d:PV} {v:Value} (x:RdO h P O d v):Rd h (fun a=>P a\/O a) d v:=by
 cases d with
 | list l=>obtain ⟨a,vs,e,pa,q,n,r⟩:=x;exact ⟨a,vs,e,.inr pa,q,n,Rds.imp (fun _ _ _ _ p=>.inl p) l r⟩
 | dict l=>obtain ⟨a,vs,e,pa,n1,n,q,r⟩:=x;exact ⟨a,vs,e,.inr pa,n1,n,q,RdKV.imp (fun _ _ _ _ p=>.inl p) l r⟩
 | none=>exact x
 | bool _=>exact x
 | int _=>exact x
 | str _=>exact x
 | obj th tu _ _ _=>exact OAt.imp (fun _ _ _ _ p=>.inr p) (Rds.imp (fun _ _ _ _ p=>.inl p) th) (RdKV.imp (fun _ _ _ _ p=>.inl p) tu) x
 | tuple l=>exact Rd.imp (fun _ _ _ _ p=>.inl p) (.tuple l) x
theorem Rd.o {d:PV} {v:Value} (x:Rd h P d v):RdO h P P d v:=by
 cases d with
 | list l=>exact x
 | dict l=>exact x
 | none=>exact x
 | bool _=>exact x
 | int _=>exact x
 | str _=>exact x
 | obj _ _ _ _ _=>exact x
 | tuple l=>exact x
end
end Mine.Internal
end
section
open PySem PySem.W PyProof.Rows
namespace Mine.Internal
noncomputable def arcSeen (s:Shared):Option PlainShape×Bool:=(s.heap.plainShapeAt arcRec,s.heap.isNs mainGlobals)
noncomputable def arcGood (_:World):Option PlainShape×Bool:=(some arcRec.plainShape,true)
set_option maxRecDepth 100000 in
set_option maxHeartbeats 8000000 in
theorem left3:LeftO PySem.Challenge.rw_uf030002_09.row.prog view2 [] (fun s=>xlAt view2 [] s&&recOk (RowW.records PySem.Challenge.rw_uf030002_09.row.toRowW) s&&xcAt s) arcSeen arcGood 4000:=by
 intro w
 kernel_rfl
end Mine.Internal
end
section
namespace Mine.Internal
open PySem PySem.Spec
noncomputable abbrev up (s:Shared) (h:Heap) (tk:Nat):Shared:={ s with heap:=h,toks:=tk }
noncomputable def frs (A:Around):List Addr:=(A.frames.getD []).filterMap (·.frame)
noncomputable def GrowH (l:List Addr) (h h':Heap):Prop:=∀ b o,h.get? b=some o->(b∉l->h'.get? b=some o)/\∃ sl,h'.get? b=some { o with slots:=sl }
inductive Grow (A:Around) (s s':Shared):Prop where
 | mk (h':Heap) (tk:Nat) (e:s'=(up s (h') (tk))) (k:GrowH (frs A) s.heap h')
theorem GrowH.of_keeps {l:List Addr} {h h':Heap} (k:∀ b o,h.get? b=some o->h'.get? b=some o):GrowH l h h':=fun b o e=>⟨fun _=>k b o e,o.slots,k b o e⟩
theorem GrowH.refl {l:List Addr} (h:Heap):GrowH l h h:=.of_keeps fun _ _ e=>e
theorem GrowH.trans {l:List Addr} {h h' h'':Heap} (x:GrowH l h h') (y:GrowH l h' h''):GrowH l h h'':=fun b o ho=>by
 refine ⟨fun hb=>(y b o ((x b o ho).1 hb)).1 hb,?_⟩
 obtain ⟨sl,e⟩:=(x b o ho).2
 obtain ⟨sl',e'⟩:=(y b _ e).2
 exact ⟨sl',e'⟩
theorem GrowH.none {l:List Addr} {h h':Heap} (x:GrowH l h h') {a:Addr} (e:h'.get? a=Option.none):h.get? a=Option.none:=by
 cases q:h.get? a with
 | none=>rfl
 | some o=>obtain ⟨sl,e'⟩:=(x a o q).2;rw [e] at e';cases e'
theorem GrowH.some {l:List Addr} {h h':Heap} (x:GrowH l h h') {a:Addr} (e:∃ o,h.get? a=some o):∃ o,h'.get? a=some o:=by
 obtain ⟨o,e⟩:=e
 obtain ⟨sl,e'⟩:=(x a o e).2
 exact ⟨_,e'⟩
theorem GrowH.ns {l:List Addr} {h h':Heap} (x:GrowH l h h') {a:Addr} {m:Str->Option Value} (hn:h.Ns a m):h'.Ns a m:=by
 obtain ⟨o,es,ep,ho,hd,r⟩:=hn
 obtain ⟨sl,e⟩:=(x a o ho).2
 exact ⟨_,es,ep,e,hd,r⟩
theorem GrowH.cell {l:List Addr} {h h':Heap} (x:GrowH l h h') {a:Addr} {v:Option Value} (hn:h.IsCell a v):h'.IsCell a v:=by
 obtain ⟨o,ho,hd⟩:=hn
 obtain ⟨sl,e⟩:=(x a o ho).2
 exact ⟨_,e,hd⟩
theorem Grow.of_keeps {A:Around} {s s':Shared} (k:Keeps s s'):Grow A s s':=let ⟨h',tk,e,q⟩:=k;⟨h',tk,e,.of_keeps q⟩
theorem Grow.refl {A:Around} (s:Shared):Grow A s s:=⟨s.heap,s.toks,rfl,.refl _⟩
theorem Grow.trans {A:Around} {s s' s'':Shared} (x:Grow A s s') (y:Grow A s' s''):Grow A s s'':=by
 obtain ⟨h1,t1,rfl,k1⟩:=x
 obtain ⟨h2,t2,rfl,k2⟩:=y
 exact ⟨h2,t2,rfl,k1.trans k2⟩
theorem Grow.h {A:Around} {s s':Shared} (x:Grow A s s'):GrowH (frs A) s.heap s'.heap:=by obtain ⟨h1,t1,rfl,k1⟩:=x;exact k1
theorem Grow.tok {A:Around} (s:Shared) (t:Nat):Grow A s { s with toks:=t }:=⟨s.heap,t,rfl,.refl _⟩
theorem Grow.push {A:Around} (s:Shared) (o:Obj) (t:Nat):Grow A s (up s (s.heap.push o) (t)):=⟨_,t,rfl,.of_keeps fun _ _ e=>Heap.get?_push_of_some _ e⟩
structure Cx where
 env:Env
 A:Around
 h0:Heap
 P0:Addr->Prop
 names:List (Str×Nat)
 mv:List Nat
noncomputable def dum:Nat:=1000000007
noncomputable def Fz (c:Cx) (own:Addr->Option Nat) (a:Addr):Prop:=(c.P0 a\/c.h0.get? a=none)/\own a=none
inductive VarAt (h:Heap) (env:Env) (x:Str) (v:Value):Prop where
 | inl (k:env.kindOf x=some .local) (m:Str->Option Value) (hn:h.Ns env.locals m) (e:m x=some v)
 | inr (k:env.kindOf x=some .cell) (c:Addr) (hl:env.cells.lookup x=some c) (hc:h.IsCell c (some v))
structure CxOk (c:Cx):Prop where
 kind:c.env.scope.kind=.function
 nodupN:(c.names.map (·.1)).Nodup
 nodupI:(c.names.map (·.2)).Nodup
 kinds:∀ x i,(x,i)∈c.names->c.env.kindOf x=some .local\/(c.env.kindOf x=some .cell/\∃ a,c.env.cells.lookup x=some a)
 debug:∀ x i,(x,i)∈c.names->(x==("__debug__" : Str))=false
 apart:c.env.cells.Pairwise fun x y=>x.2≠y.2
 handled:c.A.handled=none
 dumNot:dum∉c.mv
 units:c.A.units+200 < cLine
 frames:∃ l,c.A.frames=some l/\∀ e∈l,e.scope.kind≠.module/\∃ L,e.frame=some L
section
noncomputable def VRd (h:Heap) (c:Cx) (own:Addr->Option Nat) (i:Nat) (d:PV) (v:Value):Prop:=
 if i∈c.mv then RdO h (Fz c own) (fun a=>own a=some i) d v else Rd h (Fz c own) d v
structure St (c:Cx) (own:Addr->Option Nat) (ρ:Slots) (s:Shared):Prop where
 base:GrowH (frs c.A) c.h0 s.heap
 fr:∀ a∈frs c.A,own a=some dum/\∃ m,s.heap.Ns a m
 loc:own c.env.locals=some dum/\∃ m,s.heap.Ns c.env.locals m
 locNew:c.h0.get? c.env.locals=none
 cell:∀ n a,c.env.cells.lookup n=some a->∃ v,s.heap.IsCell a v
 cellNew:∀ n a,c.env.cells.lookup n=some a->c.h0.get? a=none
 ownIn:∀ a,own a≠none->∃ o,s.heap.get? a=some o
 ownNew:∀ a i,own a=some i->i∈c.mv->c.h0.get? a=none
 vars:∀ x i d,(x,i)∈c.names->ρ[i]?=some (some d)->∃ v,VarAt s.heap c.env x v/\VRd s.heap c own i d v
end
section
variable {c:Cx} {own:Addr->Option Nat} {ρ:Slots} {s s':Shared}
theorem VarAt.grow {l:List Addr} {h h':Heap} {x:Str} {v:Value} {env:Env} (g:GrowH l h h'):VarAt h env x v->VarAt h' env x v
 | .inl k m hn e=>.inl k m (g.ns hn) e
 | .inr k a hl hc=>.inr k a hl (g.cell hc)
theorem St.kp (x:St c own ρ s) {h':Heap} {P:Addr->Prop} (hP:∀ a,P a->own a≠some dum) (g:GrowH (frs c.A) s.heap h'):Kp P s.heap h':=fun a o ho hm=>by
 refine (g a o ho).1 fun hf=>?_
 obtain ⟨h1,m,o',es,ep,ho',hd,_⟩:=x.fr a hf
 rw [ho] at ho';cases ho'
 rcases hm with ⟨vs,n,hd',_⟩ | ⟨_,_,_,hp⟩ | ⟨_,hp⟩
 ·rw [hd] at hd';cases hd'
 ·exact hP a hp h1
 ·exact hP a hp h1
theorem fz_dum {a:Addr} (x:Fz c own a):own a≠some dum:=fun e=>by rw [x.2] at e;cases e
theorem VRd.kp {h h':Heap} {i:Nat} {d:PV} {v:Value} (k1:Kp (Fz c own) h h') (k2:i∈c.mv->Kp (fun a=>own a=some i) h h') (x:VRd h c own i d v):VRd h' c own i d v:=by
 unfold VRd at x ⊢
 split
 ·rename_i hi;rw [if_pos hi] at x;exact x.to k1 (k2 hi)
 ·rename_i hi;rw [if_neg hi] at x;exact Rd.to k1 d x
theorem St.grow (ok:CxOk c) (x:St c own ρ s) (g:Grow c.A s s'):St c own ρ s' where
 base:=x.base.trans g.h
 fr:=fun a ha=>let ⟨h1,m,hm⟩:=x.fr a ha;⟨h1,m,g.h.ns hm⟩
 loc:=let ⟨h1,m,hm⟩:=x.loc;⟨h1,m,g.h.ns hm⟩
 locNew:=x.locNew
 cell:=fun n a h=>let ⟨v,hv⟩:=x.cell n a h;⟨v,g.h.cell hv⟩
 cellNew:=x.cellNew
 ownIn:=fun a h=>g.h.some (x.ownIn a h)
 ownNew:=x.ownNew
 vars:=fun y i d hm hd=>by
  obtain ⟨v,hv,hr⟩:=x.vars y i d hm hd
  refine ⟨v,hv.grow g.h,hr.kp (x.kp (fun a h=>fz_dum h) g.h) fun hi=>x.kp (fun a h e=>?_) g.h⟩
  rw [h] at e;cases e;exact ok.dumNot hi
theorem St.load {M:Model} {A:Around} {Q:Value->Shared->Prop} {E:Value->Shared->Prop} {y:Str} {i:Nat} {d:PV} (ok:CxOk c) (x:St c own ρ s) (hm:(y,i)∈c.names) (hd:ρ[i]?=some (some d))
  (h:∀ v,VRd s.heap c own i d v->Q v s):wpAny M A (loadName c.env y) Q E s:=by
 obtain ⟨v,hv,hr⟩:=x.vars y i d hm hd
 rcases hv with ⟨k,m,hn,e⟩ | ⟨k,a,hl,hc⟩
 ·exact wpAny_loadName_local ok.kind k hn e (h v hr)
 ·exact wpAny_loadName_cell ok.kind k hl hc (h v hr)
end
end Mine.Internal
end
section
set_option backward.eqns.nonrecursive false
namespace Mine.Internal
open PySem
inductive Cl where | safe | fresh | own | any
 deriving DecidableEq
inductive GE where
 | fn (i ar:Nat) (fr:Bool)
 | const (d:PV)
structure TC where
 scope:List (Str×NameKind)
 slots:List (Str×Nat)
 mv:List Nat
 G:List (Str×GE)
 cbase:Nat
noncomputable def seqO {α:Type}:List (Option α)->Option (List α)
 | []=>some []
 | none::_=>none
 | some a::r=>(seqO r).map (a::·)
noncomputable def Cl.inner:Cl->Bool
 | .safe | .fresh=>true
 | _=>false
noncomputable def Cl.top:Cl->Bool
 | .any=>false
 | _=>true
noncomputable def clsJoin (l:List Cl):Cl:=if l.all Cl.inner then .safe else .any
noncomputable def bopOf:Operator->Option BOp
 | .Add=>some .add | .Sub=>some .sub | .Mult=>some .mul | .FloorDiv=>some .fdiv | .Mod=>some .mod
 | _=>none
noncomputable def copOf:CmpOp->COp
 | .Eq=>.eq | .NotEq=>.ne | .Lt=>.lt | .Gt=>.gt | .In=>.isIn | .NotIn=>.notIn | .Is=>.is_ | .IsNot=>.isNot | _=>.no
noncomputable def TC.glob (t:TC) (x:Str):Bool:=t.scope.lookup x==some .globalImplicit
noncomputable def TC.bi (t:TC) (x y:Str):Bool:=t.glob x&&(t.G.lookup x).isNone&&x==y
noncomputable def TC.slot (t:TC) (x:Str):Option Nat:=
 if t.scope.lookup x==some .local||t.scope.lookup x==some .cell then t.slots.lookup x else none
noncomputable def tyTab:List (Str×Ty):=[("int",.int),("bool",.bool),("tuple",.tuple),("list",.list),("str",.str)]
inductive TyIs (t:TC):Expr->Ty->Prop where
 | name {T:Str} {yp:Pos} {ty:Ty} (h:t.bi T T=true) (ht:tyTab.lookup T=some ty):TyIs t (.Name T yp) ty
 | seq {X Y:Str} {xp yp tp:Pos} {tk:Nat} (hx:t.bi X "tuple" = true) (hy:t.bi Y "list" = true):TyIs t (.Tuple [.Name X xp,.Name Y yp] tk tp) .seq
noncomputable def toTy (t:TC) (y:Expr):Option { ty:Ty // TyIs t y ty }:=match y with
 | .Name T yp=>if h:t.bi T T=true then (match ht:tyTab.lookup T with | some ty=>some ⟨ty,.name h ht⟩ | none=>none) else none
 | .Tuple [.Name X xp,.Name Y yp] tk tp=>if h:t.bi X "tuple" = true/\t.bi Y "list" = true then some ⟨.seq,.seq h.1 h.2⟩ else none
 | _=>none
noncomputable def primTab:List (Str×Prim):=[("len",.len),("abs",.abs),("list",.listOf),("tuple",.tupleOf),("int",.intOf),("all",.all),("any",.any),("max",.max2)]
noncomputable def primOf (t:TC) (f:Str):Option Prim:=if t.bi f f then primTab.lookup f else none
noncomputable def compNames (outer:List (Str×NameKind)) (names:List (Str×NameKind)):List (Str×NameKind):=
 names.map fun p=>if p.2==.free&&outer.lookup p.1==some .cell then (p.1,.cell) else p
noncomputable def compSlots (t:TC) (names:List (Str×NameKind)) (xs:List Str):List (Str×Nat):=
 xs.zipIdx.map (fun p=>(p.1,t.cbase+p.2))++t.slots.filter fun p=>!xs.contains p.1&&(compNames t.scope names).lookup p.1==some .cell
noncomputable def compTC (t:TC) (names:List (Str×NameKind)) (xs:List Str):TC:=
 { t with scope:=compNames t.scope names,slots:=compSlots t names xs,cbase:=t.cbase+xs.length }
noncomputable def nameE:Expr->Option Str
 | .Name x _=>some x
 | _=>none
noncomputable def tgtNames:Expr->Option (Bool×List Str)
 | .Name x _=>some (true,[x])
 | .Tuple es _ _=>(seqO (es.map nameE)).map fun l=>(false,l)
 | _=>none
noncomputable def compOk (t:TC) (names:List (Str×NameKind)) (xs:List Str):Bool:=
 xs.all (fun x=>names.lookup x==some .local&&!(x==("__debug__" : Str))&&!(x==(".0" : Str)))&&decide xs.Nodup &&
 names.all (fun p=>p.2==.local||p.2==.globalImplicit||(p.2==.free&&t.scope.lookup p.1==some .cell&&(t.slots.lookup p.1).isSome)) &&
 names.all (fun p=>p.2 != .local||p.1==(".0" : Str)||xs.contains p.1)&&decide ((names.map (·.1)).Nodup)
noncomputable def starred:Expr->Bool
 | .Starred ..=>true
 | _=>false
end Mine.Internal
end
section
set_option backward.eqns.nonrecursive false
namespace Mine.Internal
open PySem PySem.Spec PyProof.Rows
section
noncomputable def RdC (c:Cx) (own:Addr->Option Nat) (h₀ h:Heap):Cl->PV->Value->Prop
 | .safe,d,v=>Rd h (Fz c own) d v
 | .fresh,d,v=>RdO h (fun b=>Fz c own b/\v≠.ref b) (fun a=>h₀.get? a=none) d v
 | .own,d,v=>RdO h (Fz c own) (fun a=>c.h0.get? a=none/\own a≠some dum/\own a≠none) d v
 | .any,d,v=>Rd h (fun a=>(c.P0 a\/c.h0.get? a=none)/\own a≠some dum) d v
abbrev Tp (c:Cx) (own:Addr->Option Nat) (h:Heap) (d:PV) (v:Value):Prop:=RdO h (Fz c own) (fun a=>own a≠some dum) d v
end
section
variable {c:Cx} {own:Addr->Option Nat} {ρ:Slots} {s s':Shared} {k:Cl} {d:PV} {v:Value} {h₀ h h':Heap}
theorem St.newOwn (x:St c own ρ s) {a:Addr} (e:s.heap.get? a=none):own a=none:=by
 cases q:own a with
 | none=>rfl
 | some i=>obtain ⟨o,ho⟩:=x.ownIn a (by rw [q];exact fun z=>by cases z);rw [e] at ho;cases ho
theorem St.newBase (x:St c own ρ s) {a:Addr} (e:s.heap.get? a=none):c.h0.get? a=none:=x.base.none e
theorem St.newFz (x:St c own ρ s) {a:Addr} (e:s.heap.get? a=none):Fz c own a:=⟨.inr (x.newBase e),x.newOwn e⟩
theorem RdC.tp (x:St c own ρ s) (hk:k.top=true) (r:RdC c own s.heap h k d v):Tp c own h d v:=by
 cases k with
 | safe=>exact RdO.imp (fun a _ _ _ p=>fz_dum p) (fun _ _ _ _ p=>p) (Rd.o r)
 | fresh=>exact RdO.imp (fun a _ _ _ (p:s.heap.get? a=none)=>by rw [x.newOwn p];exact fun z=>by cases z) (fun _ _ _ _ p=>p.1) r
 | own=>exact RdO.imp (fun a _ _ _ p=>p.2.1) (fun _ _ _ _ p=>p) r
 | any=>cases hk
theorem RdC.rd (x:St c own ρ s) (hk:k.inner=true) (r:RdC c own s.heap h k d v):Rd h (Fz c own) d v:=by
 cases k with
 | safe=>exact r
 | fresh=>exact Rd.imp (fun a _ _ _ p=>p.elim (fun q=>q.1) fun (q:s.heap.get? a=none)=>x.newFz q) d (RdO.rd r)
 | own=>cases hk
 | any=>cases hk
theorem RdC.any (x:St c own ρ s) (r:RdC c own s.heap h k d v):Rd h (fun a=>(c.P0 a\/c.h0.get? a=none)/\own a≠some dum) d v:=by
 cases k with
 | safe=>exact Rd.imp (fun a _ _ _ p=>⟨p.1,fz_dum p⟩) d r
 | fresh=>exact Rd.imp (fun a _ _ _ p=>p.elim (fun q=>⟨q.1.1,fz_dum q.1⟩) fun (q:s.heap.get? a=none)=>⟨.inr (x.newBase q),by rw [x.newOwn q];exact fun z=>by cases z⟩) d (RdO.rd r)
 | own=>exact Rd.imp (fun a _ _ _ p=>p.elim (fun q=>⟨q.1,fz_dum q⟩) fun q=>⟨.inr q.1,q.2.1⟩) d (RdO.rd r)
 | any=>exact r
theorem RdC.back {l:List Addr} (g:GrowH l h₀ s.heap) (r:RdC c own s.heap h k d v):RdC c own h₀ h k d v:=by
 cases k with
 | fresh=>exact RdO.imp (fun a _ _ _ (p:s.heap.get? a=none)=>g.none p) (fun _ _ _ _ p=>p) r
 | _=>exact r
theorem RdC.grow (x:St c own ρ s) {s₁ s₂:Shared} (g₁:Grow c.A s s₁) (ok:CxOk c) (g:Grow c.A s₁ s₂) (r:RdC c own s.heap s₁.heap k d v):RdC c own s.heap s₂.heap k d v:=by
 have x₁:=x.grow ok g₁
 cases k with
 | safe=>exact Rd.to (x₁.kp (fun a h=>fz_dum h) g.h) d r
 | fresh=>exact RdO.to (x₁.kp (fun a h=>fz_dum h.1) g.h) (x₁.kp (fun a (p:s.heap.get? a=none)=>by rw [x.newOwn p];exact fun z=>by cases z) g.h) r
 | own=>exact RdO.to (x₁.kp (fun a h=>fz_dum h) g.h) (x₁.kp (fun a p=>p.2.1) g.h) r
 | any=>exact Rd.to (x₁.kp (fun a p=>p.2) g.h) d r
theorem Tp.grow (x:St c own ρ s) (g:Grow c.A s s') (r:Tp c own s.heap d v):Tp c own s'.heap d v:=
 RdO.to (x.kp (fun a h=>fz_dum h) g.h) (x.kp (fun a p=>p) g.h) r
theorem freshC (hd:∀ l,d≠.list l) (hd':∀ l,d≠.dict l) (hd3:∀ a b c e g,d≠.obj a b c e g) (r:Rd h (Fz c own) d v):RdC c own h₀ h .fresh d v:=by
 cases d with
 | list l=>exact absurd rfl (hd l)
 | dict l=>exact absurd rfl (hd' l)
 | none=>exact r
 | bool _=>exact r
 | int _=>exact r
 | str _=>exact r
 | obj a b c e g=>exact absurd rfl (hd3 a b c e g)
 | tuple l=>
  obtain ⟨a,vs,rfl,⟨n,hs⟩,hn,hr⟩:=r
  refine ⟨a,vs,rfl,⟨n,hs⟩,hn,Rds.imp (fun b o ho hc p=>⟨p,fun q=>?_⟩) l hr⟩
  injection q with q;subst q;rw [hs] at ho;cases ho
  rcases hc with (hc | hc) | hc | ⟨_,_,hc⟩<;>simp at hc
theorem newListC (x:St c own ρ s) {l:List PV} {vs:Array Value} (hn:l.length<=lim) (r:Rds s.heap (Fz c own) l vs.toList):
  RdC c own s.heap (s.heap.push { cls:=.type "list",data:=.seq vs }) .fresh (.list l) (.ref s.heap.objs.size):=by
 have e:s.heap.get? s.heap.objs.size=none:=by
  cases q:s.heap.get? s.heap.objs.size with
  | none=>rfl
  | some o=>exact absurd (Heap.lt_size q) (Nat.lt_irrefl _)
 refine ⟨_,vs,rfl,e,⟨0,Heap.get?_push_size _ rfl⟩,hn,?_⟩
 refine Rds.to (fun a o ho _=>Heap.get?_push_of_some _ ho) l (Rds.imp (fun a o ho _ p=>⟨p,fun q=>?_⟩) l r)
 injection q with q;rw [<-q,e] at ho;cases ho
theorem newTupleC {l:List PV} {vs:Array Value} {P:Addr->Prop} (hn:l.length<=lim) (r:Rds h P l vs.toList):
  Rd (h.push { cls:=.type "tuple",data:=.seq vs }) P (.tuple l) (.ref h.objs.size):=
 ⟨_,vs,rfl,⟨0,Heap.get?_push_size _ rfl⟩,hn,Rds.to (fun a o ho _=>Heap.get?_push_of_some _ ho) l r⟩
theorem newSize (h:Heap):h.get? h.objs.size=none:=by
 cases q:h.get? h.objs.size with
 | none=>rfl
 | some o=>exact absurd (Heap.lt_size q) (Nat.lt_irrefl _)
end
end Mine.Internal
end
section
namespace Mine.Internal
open PySem PySem.Spec PyProof.Rows
theorem bind_ok' {α β:Type} {r:Res α} {g:α->Res β} (h:r.bind g≠.stuck):∃ a,r=.ok a/\g a≠.stuck:=by
 cases r with
 | ok a=>exact ⟨a,rfl,h⟩
 | stuck=>exact absurd rfl h
theorem bind_of {α β:Type} {r:Res α} {g:α->Res β} {d:β} (h:r.bind g=.ok d):∃ a,g a=.ok d:=by
 cases r with
 | ok a=>exact ⟨a,h⟩
 | stuck=>cases h
theorem lim_is:lim=sizeLine:=by decide
section
variable {c:Cx} {own:Addr->Option Nat} {ρ:Slots} {s s':Shared} {k:Cl} {d:PV} {v:Value} {h₀ h h':Heap} {A:Around} {E:Value->Shared->Prop}
theorem mulOk {a b:Int} (h:big a=false):IntMulOk a b:=by
 refine .of_left ?_
 unfold big at h
 have h1:a.natAbs < 4611686018427387904:=by simpa using h
 unfold Builtin.Int.intBits
 split
 ·exact o287
 ·rename_i hz
  have:a.natAbs.log2 < 62:=(Nat.log2_lt (by simpa using hz)).mpr (by simpa using h1)
  exact o288 this
noncomputable def Gives (c:Cx) (own:Addr->Option Nat) (A:Around) (t:Sem Value) (k:Cl) (d:PV) (s:Shared):Prop:=
 ∀ E,wpAny (model prog w) A t (fun v s'=>Keeps s s'/\RdC c own s.heap s'.heap k d v) E s
theorem zC (s:Shared) (t:Nat):Keeps s { s with toks:=t }:=⟨s.heap,t,rfl,fun _ _ e=>e⟩
theorem keeps_push (s:Shared) (o:Obj) (t:Nat):Keeps s (up s (s.heap.push o) (t)):=⟨_,t,rfl,fun _ _ e=>Heap.get?_push_of_some _ e⟩
theorem binop_sound (x:St c own ρ s) {op:Operator} {o:BOp} {d₁ d₂:PV} {v₁ v₂:Value} (ho:bopOf op=some o) (r₁:Tp c own s.heap d₁ v₁) (r₂:Tp c own s.heap d₂ v₂)
  (e:binop o d₁ d₂=.ok d):Gives c own A (binaryOp op v₁ v₂) .fresh d s:=by
 intro E
 cases op with
 | Add=>
  cases ho
  cases d₁ with
  | int a=>
   cases d₂ with
   | int b=>obtain ⟨t,rfl⟩:=r₁;obtain ⟨u,rfl⟩:=r₂;cases e;exact PyProof.Rows.add_int ⟨zC _ _,_,rfl⟩
   | _=>exact Res.no e
  | list l₁=>
   cases d₂ with
   | list l₂=>
    obtain ⟨hl,e⟩:=if_ok (show (if (l₁++l₂).length<=lim then Res.ok (PV.list (l₁++l₂)) else .stuck)=.ok d from e)
    cases e
    obtain ⟨a,vs,rfl,_,⟨n,hs⟩,hn,hr⟩:=r₁;obtain ⟨b,us,rfl,_,⟨n2,hs2⟩,hn2,hr2⟩:=r₂
    refine P.add_list hs hs2 ⟨keeps_push _ _ _,newListC x hl ?_⟩ ?_
    ·rw [Array.toList_append];exact hr.append hr2
    ·have h1:=hr.length;have h2:=hr2.length
     simp only [Array.length_toList,List.length_append] at h1 h2 hl
     rw [<-lim_is];exact o289 h1 h2 hl
   | _=>exact Res.no e
  | _=>exact Res.no e
 | Sub=>
  cases ho
  obtain ⟨a,b,rfl,rfl,e⟩:=int2_ok e
  obtain ⟨t,rfl⟩:=r₁;obtain ⟨u,rfl⟩:=r₂;cases e;exact PyProof.Rows.sub_int ⟨zC _ _,_,rfl⟩
 | Mult=>
  cases ho
  cases d₁ with
  | int a=>
   cases d₂ with
   | int b=>
    obtain ⟨hb,e⟩:=if_ok' (show (if (big a||big b)=true then Res.stuck else .ok (.int (a*b)))=.ok d from e)
    obtain ⟨t,rfl⟩:=r₁;obtain ⟨u,rfl⟩:=r₂;cases e
    exact PyProof.Rows.mul_int ⟨zC _ _,_,rfl⟩ (mulOk (by simp only [Bool.or_eq_true,not_or,Bool.not_eq_true] at hb;exact hb.1))
   | _=>exact Res.no e
  | _=>exact Res.no e
 | FloorDiv=>
  cases ho
  obtain ⟨a,b,rfl,rfl,e⟩:=int2_ok e
  obtain ⟨hb,e⟩:=if_ok' e
  obtain ⟨t,rfl⟩:=r₁;obtain ⟨u,rfl⟩:=r₂;cases e
  simp only [Bool.or_eq_true,not_or,decide_eq_true_eq] at hb
  exact PyProof.Rows.floordiv_int hb.1 ⟨zC _ _,_,rfl⟩ (.inl (PyProof.noPylong_small (by exact v35 hb.2)))
 | Mod=>
  cases ho
  obtain ⟨a,b,rfl,rfl,e⟩:=int2_ok e
  obtain ⟨hb,e⟩:=if_ok' e
  obtain ⟨t,rfl⟩:=r₁;obtain ⟨u,rfl⟩:=r₂;cases e;exact PyProof.Rows.mod_int hb ⟨zC _ _,_,rfl⟩
 | _=>cases ho
end
end Mine.Internal
end
section
set_option backward.eqns.nonrecursive false
namespace Mine.Internal
open PySem PySem.Spec PyProof.Rows
mutual
noncomputable def PV.pd:PV->PyData
 | .int i=>.int i
 | .str x=>.str x
 | .list l=>.list (PV.pds l)
 | _=>.none
noncomputable def PV.pds:List PV->List PyData
 | []=>[]
 | x::xs=>PV.pd x::PV.pds xs
end
mutual
theorem eqv_pd:∀ a b:PV,a.flat=true->b.flat=true->PyData.eqv a.pd b.pd=PV.eq a b
 | .int _,b,_,h=>by cases b<;>first | rfl | cases h
 | .none,b,_,h=>by cases b<;>first | rfl | cases h
 | .str _,b,_,h=>by cases b<;>first | rfl | cases h
 | .list l,b,g,h=>by
  cases b with
  | list m=>exact eqvs_pds l m g h
  | _=>first | rfl | cases h
theorem eqvs_pds:∀ a b:List PV,PV.flats a=true->PV.flats b=true->PyData.eqvAll (PV.pds a) (PV.pds b)=PV.eqs a b
 | [],[],_,_=>rfl
 | [],_::_,_,_=>rfl
 | _::_,[],_,_=>rfl
 | x::xs,y::ys,g,h=>by
  rw [flatsC,Bool.and_eq_true] at g h
  rw [eqsC,<-eqv_pd x y g.1 h.1,<-eqvs_pds xs ys g.2 h.2];rfl
end
section
variable {h:Heap} {P:Addr->Prop}
mutual
theorem Rd.reads:∀ (d:PV) {v:Value},d.flat=true->Rd h P d v->(∃ as,Reads h v d.pd as)/\d.pd.canLay0=true/\d.pd.depth=d.depth
 | .bool _,_,f,_=>nomatch f
 | .tuple _,_,f,_=>nomatch f
 | .dict _,_,f,_=>nomatch f
 | .obj ..,_,f,_=>nomatch f
 | .int i,_,_,r=>by obtain ⟨t,e⟩:=r;subst e;exact ⟨⟨_,.int i t⟩,rfl,rfl⟩
 | .none,_,_,e=>by cases e;exact ⟨⟨_,.none⟩,rfl,rfl⟩
 | .str x,_,_,r=>by obtain ⟨q,t,e⟩:=r;subst e;exact ⟨⟨_,.str x t⟩,q,rfl⟩
 | .list l,_,f,r=>by
  obtain ⟨a,vs,e,_,⟨n,hs⟩,_,r⟩:=r
  subst e
  obtain ⟨⟨as,q⟩,q2,q3⟩:=Rds.reads l f r
  exact ⟨⟨_,.list hs rfl rfl q⟩,q2,congrArg (·+1) q3⟩
theorem Rds.reads:∀ (l:List PV) {vs:List Value},PV.flats l=true->Rds h P l vs->(∃ as,ReadsAll h vs (PV.pds l) as)/\PyData.canLayAll0 (PV.pds l)=true/\PyData.depthAll (PV.pds l)=PV.depths l
 | [],_,_,r=>by rw [show _=_ from r];exact ⟨⟨_,.nil⟩,rfl,rfl⟩
 | x::xs,_,f,r=>by
  obtain ⟨v,r,e,a,b⟩:=r
  subst e
  rw [flatsC,Bool.and_eq_true] at f
  obtain ⟨⟨as,q⟩,q2,q3⟩:=Rd.reads x f.1 a
  obtain ⟨⟨bs,p⟩,p2,p3⟩:=Rds.reads xs f.2 b
  exact ⟨⟨_,.cons q p⟩,by show (x.pd.canLay0&&PyData.canLayAll0 (PV.pds xs))=true;rw [q2,p2];rfl,by show max x.pd.depth (PyData.depthAll (PV.pds xs))=max x.depth (PV.depths xs);rw [q3,p3]⟩
end
end
section
variable {c:Cx} {own:Addr->Option Nat} {ρ:Slots} {s s':Shared} {A:Around} {E:Value->Shared->Prop}
theorem any_pds (l:List PV) (d:PV) (h:PV.flats l=true) (hd:d.flat=true):((PV.pds l).any fun y=>PyData.eqv y d.pd)=l.any fun y=>PV.eq y d:=by
 induction l with
 | nil=>rfl
 | cons x xs ih=>
  rw [flatsC,Bool.and_eq_true] at h
  rw [List.any_cons,<-ih h.2,<-eqv_pd x d h.1 hd];rfl
theorem isInt_int (i:Int) (t:Tok):(intKind prog w).is i (.int i t)=true:=by simp [intKind,Value.isInt]
theorem itemsAre_ints {P:Addr->Prop} {h:Heap}:∀ {l:List PV} {is:List Int} {vs:List Value},PV.ints? l=some is->Rds h P l vs->ItemsAre (intKind prog w) is vs
 | [],_,_,e,r=>by cases e;rw [show _=_ from r];exact .nil
 | .int i::l,_,_,e,⟨v,r,q,⟨t,a⟩,b⟩=>by
  subst q a
  simp only [PV.ints?,Option.map_eq_some_iff] at e
  obtain ⟨is',e,rfl⟩:=e
  exact .cons (isInt_int i t) (itemsAre_ints e b)
 | .none::_,_,_,e,_=>noS e
 | .bool _::_,_,_,e,_=>noS e
 | .tuple _::_,_,_,e,_=>noS e
 | .list _::_,_,_,e,_=>noS e
 | .dict _::_,_,_,e,_=>noS e
 | .str _::_,_,_,e,_=>noS e
 | .obj ..::_,_,_,e,_=>noS e
end
end Mine.Internal
end
section
namespace Mine.Internal
open PySem PySem.Spec PyProof.Rows
section
variable {h:Heap}
theorem dictOf_nil {a:Addr} (x:h.DictOfH (tupleKind (intKind prog w)) a []):h.DictOf (intKind prog w) a []:=by
 obtain ⟨o,es,ep,ho,hx,hd,he,_,_⟩:=x
 have e:es.toList=[]:=by simpa using he
 exact ⟨o,es,ep,ho,hx,hd,fun y hy=>by rw [<-Array.mem_toList_iff,e] at hy;simp at hy,by rw [e];exact .nil,List.nodup_nil⟩
theorem dictOfH_nil {a:Addr} (x:h.DictOf (intKind prog w) a []):h.DictOfH (tupleKind (intKind prog w)) a []:=by
 obtain ⟨o,es,ep,ho,hx,hd,_,hp,_⟩:=x
 have e:es.toList=[]:=List.length_eq_zero_iff.mp hp.length
 exact ⟨o,es,ep,ho,hx,hd,by simpa using e,fun y hy=>(by simp at hy),List.nodup_nil⟩
theorem DictRep.int {a:Addr} {l:List (Key×PV)} {vs:List Value} {i:Int} (f:dfits l (.int i)=true) (x:DictRep h a (l.map (·.1)) vs):
  ∃ kvs:List (Int×Value),h.DictOf (intKind prog w) a kvs/\l.map (·.1)=kvs.map (fun p=>Key.int p.1)/\vs=kvs.map (·.2):=by
 rcases x with q | ⟨xs,q,e,e',_⟩
 ·exact q
 ·cases xs with
  | nil=>exact ⟨[],dictOf_nil q,e,e'⟩
  | cons p r=>
   cases l with
   | nil=>simp at e
   | cons p' r'=>simp only [List.map_cons,List.cons.injEq] at e;simp [dfits,e.1,Key.same] at f
theorem DictRep.tup {a:Addr} {l:List (Key×PV)} {vs:List Value} {i:List Int} (f:dfits l (.tup i)=true) (x:DictRep h a (l.map (·.1)) vs):
  ∃ xs:List (List Int×Addr×Value),h.DictOfH (tupleKind (intKind prog w)) a xs/\l.map (·.1)=xs.map (fun p=>Key.tup p.1)/\vs=xs.map (·.2.2)/\TKs h xs:=by
 rcases x with ⟨xs,q,e,e'⟩ | q
 ·cases xs with
  | nil=>exact ⟨[],dictOfH_nil q,e,e',fun _ hy=>by cases hy⟩
  | cons p r=>
   cases l with
   | nil=>simp at e
   | cons p' r'=>simp only [List.map_cons,List.cons.injEq] at e;simp [dfits,e.1,Key.same] at f
 ·exact q
theorem RdKV.rds {P:Addr->Prop}:∀ {l:List (Key×PV)} {vs:List Value},RdKV h P l vs->Rds h P (l.map (·.2)) vs
 | [],_,r=>r
 | (_,d)::ds,_,⟨v,r,e,a,b⟩=>⟨v,r,e,a,RdKV.rds b⟩
theorem RdKV.of {P:Addr->Prop}:∀ {l:List (Key×PV)} {vs:List Value},Rds h P (l.map (·.2)) vs->RdKV h P l vs
 | [],_,r=>r
 | (_,d)::ds,_,⟨v,r,e,a,b⟩=>⟨v,r,e,a,RdKV.of b⟩
theorem valueAt_dget {P:Addr->Prop} {i:Int}:∀ {l:List (Key×PV)} {kvs:List (Int×Value)},l.map (·.1)=kvs.map (fun p=>Key.int p.1)->RdKV h P l (kvs.map (·.2)) ->
  (dhas l (.int i)=(valueAt kvs i).isSome)/\∀ d,dget l (.int i)=some d->∃ v,valueAt kvs i=some v/\Rd h P d v
 | [],kvs,e,_=>by
  cases kvs with
  | nil=>exact ⟨rfl,fun d q=>by simp [dget] at q⟩
  | cons _ _=>simp at e
 | (k,d)::r,kvs,e,q=>by
  cases kvs with
  | nil=>simp at e
  | cons p ps=>
   obtain ⟨v,vs,e2,a,b⟩:=q
   simp only [List.map_cons,List.cons.injEq] at e e2
   obtain ⟨rfl,e⟩:=e
   obtain ⟨rfl,rfl⟩:=e2
   obtain ⟨h1,h2⟩:=valueAt_dget (i:=i) e b
   by_cases hk:p.1=i
   ·refine ⟨by simp [dhas,valueAt,hk],fun d' q=>?_⟩
    simp [dget,hk] at q
    subst q
    exact ⟨p.2,by simp [valueAt,hk],a⟩
   ·refine ⟨by simpa [dhas,valueAt,hk] using h1,fun d' q=>?_⟩
    obtain ⟨v',q1,q2⟩:=h2 d' (by simpa [dget,hk] using q)
    exact ⟨v',by simpa [valueAt,hk] using q1,q2⟩
theorem atKey_dget {P:Addr->Prop} {i:List Int}:∀ {l:List (Key×PV)} {xs:List (List Int×Addr×Value)},l.map (·.1)=xs.map (fun p=>Key.tup p.1)->RdKV h P l (xs.map (·.2.2)) ->
  (dhas l (.tup i)=(atKey xs i).isSome)/\∀ d,dget l (.tup i)=some d->∃ p,atKey xs i=some p/\Rd h P d p.2
 | [],kvs,e,_=>by
  cases kvs with
  | nil=>exact ⟨rfl,fun d q=>by simp [dget] at q⟩
  | cons _ _=>simp at e
 | (k,d)::r,kvs,e,q=>by
  cases kvs with
  | nil=>simp at e
  | cons p ps=>
   obtain ⟨v,vs,e2,a,b⟩:=q
   simp only [List.map_cons,List.cons.injEq] at e e2
   obtain ⟨rfl,e⟩:=e
   obtain ⟨rfl,rfl⟩:=e2
   obtain ⟨h1,h2⟩:=atKey_dget (i:=i) e b
   by_cases hk:p.1=i
   ·refine ⟨by simp [dhas,atKey,hk],fun d' q=>?_⟩
    simp [dget,hk] at q
    subst q
    exact ⟨p.2,by simp [atKey,hk],a⟩
   ·refine ⟨by simpa [dhas,atKey,hk] using h1,fun d' q=>?_⟩
    obtain ⟨v',q1,q2⟩:=h2 d' (by simpa [dget,hk] using q)
    exact ⟨v',by simpa [atKey,hk] using q1,q2⟩
end
section
variable {c:Cx} {own:Addr->Option Nat} {ρ:Slots} {s s':Shared} {A:Around} {E:Value->Shared->Prop} {d₁ d₂:PV} {v₁ v₂:Value}
theorem sysNe {a:Addr} (h:a≠1):(a==sysModules)=false:=by simpa [sysModules] using h
noncomputable def GivesB (A:Around) (t:Sem Value) (b:Bool) (s:Shared):Prop:=
 ∀ E,wpAny (model prog w) A t (fun v s'=>Keeps s s'/\v=.bool b) E s
theorem isin_sound (hu:A.units+200 < cLine) (r₁:Tp c own s.heap d₁ v₁) (r₂:Tp c own s.heap d₂ v₂) {b:Bool} (e:isin d₁ d₂=.ok b):
  GivesB A (compareOp .In v₁ v₂) b s/\GivesB A (compareOp .NotIn v₁ v₂) (!b) s:=by
 unfold isin at e
 split at e
 ·rename_i l
  split at e
  ·rename_i hf
   cases e
   simp only [Bool.and_eq_true,decide_eq_true_eq] at hf
   obtain ⟨a,vs,rfl,_,⟨n,hs⟩,_,rr⟩:=RdO.rd r₂
   obtain ⟨⟨as,qs⟩,q2,q3⟩:=Rds.reads l hf.1.1 rr
   have q:Reads s.heap (.ref a) (.list (PV.pds l)) _:=.list hs rfl rfl qs
   obtain ⟨⟨bs,p⟩,p2,p3⟩:=Rd.reads _ hf.1.2 (RdO.rd r₁)
   have hd:A.units+1+min (PyData.depthAll (PV.pds l)) d₁.pd.depth < cLine:=by have:=Nat.min_le_right (PyData.depthAll (PV.pds l)) d₁.pd.depth;exact o290 hu hf.2 p3
   exact ⟨fun E=>PySem.SeqAt.in_list_reads q p q2 p2 hd ⟨zC s s.toks,by rw [any_pds _ _ hf.1.1 hf.1.2]⟩,fun E=>PySem.SeqAt.notIn_list_reads q p q2 p2 hd ⟨zC s s.toks,by rw [any_pds _ _ hf.1.1 hf.1.2]⟩⟩
  ·exact Res.no e
 ·rename_i l
  split at e
  ·rename_i hf
   cases e
   simp only [Bool.and_eq_true,decide_eq_true_eq] at hf
   obtain ⟨a,vs,rfl,⟨n,hs⟩,_,rr⟩:=RdO.rd r₂
   obtain ⟨⟨as,qs⟩,q2,q3⟩:=Rds.reads l hf.1.1 rr
   have q:Reads s.heap (.ref a) (.tuple (PV.pds l)) _:=.tuple hs rfl rfl qs
   obtain ⟨⟨bs,p⟩,p2,p3⟩:=Rd.reads _ hf.1.2 (RdO.rd r₁)
   have hd:A.units+1+min (PyData.depthAll (PV.pds l)) d₁.pd.depth < cLine:=by have:=Nat.min_le_right (PyData.depthAll (PV.pds l)) d₁.pd.depth;exact o290 hu hf.2 p3
   exact ⟨fun E=>PySem.SeqAt.in_tuple_reads q p q2 p2 hd ⟨zC s s.toks,by rw [any_pds _ _ hf.1.1 hf.1.2]⟩,fun E=>PySem.SeqAt.notIn_tuple_reads q p q2 p2 hd ⟨zC s s.toks,by rw [any_pds _ _ hf.1.1 hf.1.2]⟩⟩
  ·exact Res.no e
 ·rename_i l
  split at e
  ·rename_i k hk
   split at e
   ·rename_i hf
    cases e
    obtain ⟨a,vs,rfl,_,n1,n,q,r⟩:=r₂
    cases d₁ with
    | int i=>
     cases hk
     obtain ⟨t,rfl⟩:=r₁
     obtain ⟨kvs,hd,e1,rfl⟩:=q.int hf
     obtain ⟨h1,_⟩:=valueAt_dget (i:=i) e1 r
     rw [h1]
     exact ⟨fun E=>wpAny_in_of (isInt_int i t) (sysNe n1) hd.mapOf ⟨zC _ _,rfl⟩,fun E=>wpAny_notIn_of (isInt_int i t) (sysNe n1) hd.mapOf ⟨zC _ _,rfl⟩⟩
    | tuple l'=>
     simp only [PV.key?,Option.map_eq_some_iff] at hk
     obtain ⟨is,hi,rfl⟩:=hk
     obtain ⟨b,us,rfl,⟨m,hs⟩,_,r1⟩:=r₁
     obtain ⟨xs,hd,e1,rfl,_⟩:=q.tup hf
     obtain ⟨h1,_⟩:=atKey_dget (i:=is) e1 r
     rw [h1]
     have hkey:(tupleKind (intKind prog w)).is s.heap is b:=⟨_,us,m,hs,rfl,rfl,itemsAre_ints hi r1⟩
     exact ⟨fun E=>wpAny_in_heap (tupleKind_room_in1 (by exact o291 hu)) hkey (sysNe n1) hd ⟨zC _ _,rfl⟩,fun E=>wpAny_notIn_heap (tupleKind_room_in1 (by exact o291 hu)) hkey (sysNe n1) hd ⟨zC _ _,rfl⟩⟩
    | _=>cases hk
   ·exact Res.no e
  ·exact Res.no e
 ·exact Res.no e
end
end Mine.Internal
end
section
namespace Mine.Internal
open PySem PySem.Spec PyProof.Rows
section
variable {c:Cx} {own:Addr->Option Nat} {ρ:Slots} {s s':Shared} {A:Around} {E:Value->Shared->Prop} {d₁ d₂:PV} {v₁ v₂:Value} {h:Heap} {P O:Addr->Prop}
theorem isN_sound (r₁:RdO h P O d₁ v₁) (r₂:RdO h P O d₂ v₂) {b:Bool} (e:isN d₁ d₂=.ok b):isSame v₁ v₂=pure b:=by
 cases d₂ with
 | none=>
  rw [show v₂=.none from r₂]
  cases d₁ with
  | none=>rw [show v₁=.none from r₁];cases e;rfl
  | str _=>obtain ⟨_,_,q⟩:=r₁;rw [q];cases e;rfl
  | _=>exact Res.no e
 | _=>cases d₁<;>exact Res.no e
theorem cmpop_sound (hu:A.units+200 < cLine) (op:CmpOp) (r₁:Tp c own s.heap d₁ v₁) (r₂:Tp c own s.heap d₂ v₂) {b:Bool} (e:cmpop (copOf op) d₁ d₂=.ok b):
  GivesB A (compareOp op v₁ v₂) b s:=by
 intro E
 cases op with
 | Eq=>
  obtain ⟨hf,e⟩:=if_ok e
  ·cases e
   simp only [Bool.and_eq_true,decide_eq_true_eq] at hf
   obtain ⟨⟨as,q⟩,q2,q3⟩:=Rd.reads _ hf.1.1 (RdO.rd r₁)
   obtain ⟨⟨bs,p⟩,p2,p3⟩:=Rd.reads _ hf.1.2 (RdO.rd r₂)
   exact PySem.SeqAt.compareEq_reads q p q2 p2 (by have:=Nat.min_le_left d₁.pd.depth d₂.pd.depth;exact o292 hu hf.2 q3) ⟨zC s s.toks,by rw [eqv_pd _ _ hf.1.1 hf.1.2]⟩
 | NotEq=>
  obtain ⟨hf,e⟩:=if_ok e
  ·cases e
   simp only [Bool.and_eq_true,decide_eq_true_eq] at hf
   obtain ⟨⟨as,q⟩,q2,q3⟩:=Rd.reads _ hf.1.1 (RdO.rd r₁)
   obtain ⟨⟨bs,p⟩,p2,p3⟩:=Rd.reads _ hf.1.2 (RdO.rd r₂)
   exact PySem.SeqAt.compareNe_reads q p q2 p2 (by have:=Nat.min_le_left d₁.pd.depth d₂.pd.depth;exact o292 hu hf.2 q3) ⟨zC s s.toks,by rw [eqv_pd _ _ hf.1.1 hf.1.2]⟩
 | Lt=>
  obtain ⟨a,b,rfl,rfl,e⟩:=int2_ok e
  obtain ⟨t,rfl⟩:=r₁;obtain ⟨u,rfl⟩:=r₂;cases e
  exact PyProof.Rows.lt_int ⟨zC s s.toks,rfl⟩
 | Gt=>
  obtain ⟨a,b,rfl,rfl,e⟩:=int2_ok e
  obtain ⟨t,rfl⟩:=r₁;obtain ⟨u,rfl⟩:=r₂;cases e
  exact PyProof.Rows.gt_int ⟨zC s s.toks,rfl⟩
 | In=>exact (isin_sound hu r₁ r₂ e).1 E
 | NotIn=>
  have e:(isin d₁ d₂).bind (fun r=>.ok (!r))=.ok b:=e
  cases q:isin d₁ d₂ with
  | ok b'=>rw [q] at e;cases e;exact (isin_sound hu r₁ r₂ q).2 E
  | stuck=>rw [q] at e;cases e
 | Is=>
  show wpAny _ _ (do return Value.bool (<-isSame v₁ v₂)) _ E s
  rw [isN_sound r₁ r₂ e]
  exact wpAny_bind (wpAny_pure (wpAny_pure ⟨zC s s.toks,rfl⟩))
 | IsNot=>
  have e:(isN d₁ d₂).bind (fun r=>.ok (!r))=.ok b:=e
  show wpAny _ _ (do return Value.bool (!(<-isSame v₁ v₂))) _ E s
  cases q:isN d₁ d₂ with
  | ok b'=>
   rw [q] at e;cases e
   rw [isN_sound r₁ r₂ q]
   exact wpAny_bind (wpAny_pure (wpAny_pure ⟨zC s s.toks,rfl⟩))
  | stuck=>rw [q] at e;cases e
 | _=>exact Res.no e
end
end Mine.Internal
end
section
namespace Mine.Internal
open PySem PySem.Spec PyProof.Rows
section
variable {s:Shared} {A:Around} {E:Value->Shared->Prop}
noncomputable def clipN (n:Nat) (i:Int):Nat:=if i < 0 then (i+n).toNat else min i.toNat n
theorem big63 {z:Int} {n:Nat} (h:z<=n) (hn:n<=16777216):z < 2 ^ 63:=Int.lt_of_le_of_lt h (Int.lt_of_le_of_lt (Int.ofNat_le.2 hn) (by decide))
theorem big63' {n m:Nat} (h:n < m) (hm:m<=16777216):(n:Int) < 2 ^ 63-1:=Int.lt_of_le_of_lt (Int.ofNat_le.2 (Nat.le_trans (Nat.le_of_lt h) hm)) (by decide)
theorem neg63 {z:Int} (h:0<=z):-2 ^ 63<=z:=Int.le_trans (by decide) h
theorem big62 {z:Int} {n:Nat} (h:z<=n) (hn:n<=16777216):z < 2 ^ 62:=Int.lt_of_le_of_lt h (Int.lt_of_le_of_lt (Int.ofNat_le.2 hn) (by decide))
theorem neg62 {z:Int} (h:0<=z):-2 ^ 62<=z:=Int.le_trans (by decide) h
theorem slicePart_of {v:Value} {p:Option Int} {Q:Option Int->Shared->Prop} (x:IsPart v p) (h:Q p s):wpAny (model prog w) A (Builtin.Slice.slicePartIndex v) Q E s:=by
 cases x with
 | none=>exact slicePart_none h
 | int i t=>exact slicePart_int h
theorem adjust_one (lo hi:Option Int) (n:Nat):Builtin.Slice.sliceAdjust lo hi 1 (n:Int)=(((lo.elim 0 (clipN n):Nat):Int),((hi.elim n (clipN n):Nat):Int)):=by
 have c:∀ i:Int,(if i < 0 then max (i+(n:Int)) 0 else min i (n:Int))=((clipN n i:Nat):Int):=fun i=>by
  unfold clipN;split
  ·exact (Int.ofNat_toNat _).symm
  ·rename_i h;rw [Lean.Omega.Int.ofNat_min,Int.toNat_of_nonneg (Int.not_lt.1 h)]
 unfold Builtin.Slice.sliceAdjust
 have h1:¬ ((1:Int) < 0):=by decide
 cases lo<;>cases hi<;>simp only [h1,if_false,Option.elim,c]<;>rfl
theorem places_one (a b:Nat):Builtin.Slice.slicePlaces (a:Int) (b:Int) 1=b-a:=by
 unfold Builtin.Slice.slicePlaces
 have h1:(1:Int) > 0:=by decide
 simp only [h1,if_true,Int.ediv_one]
 split
 ·rw [Int.sub_add_cancel];exact Int.toNat_sub b a
 ·rename_i h;exact (Nat.sub_eq_zero_of_le (Int.ofNat_le.1 (Int.not_lt.1 h))).symm
theorem sliceApplied_of {sl:Addr} {n:Nat} {vl vu:Value} {lo hi:Option Int} {Q:Int×Int×Nat->Shared->Prop} (hs:s.heap.IsSliceOf sl vl vu .none) (pl:IsPart vl lo) (pu:IsPart vu hi)
  (h:Q (((lo.elim 0 (clipN n):Nat):Int),1,hi.elim n (clipN n)-lo.elim 0 (clipN n)) s):
  wpAny (model prog w) A (Builtin.Slice.sliceApplied (.ref sl) (pure (n:Int))) Q E s:=by
 obtain ⟨os,hos,hcs,hds⟩:=id hs
 unfold Builtin.Slice.sliceApplied Builtin.Slice.sliceFields
 refine wpAny_bind (wpAny_bind (wpAny_field hos hds (x:=vl) rfl (wpAny_bind (wpAny_field hos hds (x:=vu) rfl (wpAny_bind (wpAny_field hos hds (x:=.none) rfl (wpAny_pure ?_)))))))
 refine wpAny_bind (slicePart_none ?_)
 show wpAny _ _ (if ((1:Int)==0)=true then _ else _) _ _ s
 rw [if_neg (by decide)]
 refine wpAny_bind (slicePart_of pl (wpAny_bind (slicePart_of pu (wpAny_bind (wpAny_pure ?_)))))
 show wpAny _ _ (match Builtin.Slice.sliceAdjust lo hi 1 (n:Int) with | (lo,hi)=>pure (lo,(1:Int),Builtin.Slice.slicePlaces lo hi 1)) _ _ s
 rw [adjust_one]
 show wpAny _ _ (pure (((lo.elim 0 (clipN n):Nat):Int),(1:Int),Builtin.Slice.slicePlaces ((lo.elim 0 (clipN n):Nat):Int) ((hi.elim n (clipN n):Nat):Int) 1)) _ _ s
 rw [places_one]
 exact wpAny_pure h
theorem pick_cut (xs:Array Value) (a k:Nat):((List.range k).filterMap fun (j:Nat)=>xs[((a:Int)+(j:Int)*1).toNat]?).toArray=((xs.toList.drop a).take k).toArray:=by
 have e:(fun (j:Nat)=>xs[((a:Int)+(j:Int)*1).toNat]?)=fun j=>xs[a+j]?:=by
  funext j
  have:((a:Int)+(j:Int)*1).toNat=a+j:=by rw [Int.mul_one];rfl
  rw [this]
 rw [e]
 have:=pick_run xs a k
 rw [List.filterMap_map] at this
 have e2:((fun x=>xs[x]?) ∘ fun x=>a+x)=fun k=>xs[a+k]?:=rfl
 rw [e2] at this
 rw [this]
theorem getItem_tuple_slice {t sl:Addr} {items:Array Value} {vl vu:Value} {lo hi:Option Int} {Q:Value->Shared->Prop} (ht:IsTup s.heap t items) (hs:s.heap.IsSliceOf sl vl vu .none) (pl:IsPart vl lo) (pu:IsPart vu hi)
  (hw:lo.elim 0 (clipN items.size)=0->hi.elim items.size (clipN items.size)=items.size->Q (.ref t) s)
  (h:Q (.ref s.heap.objs.size) { s with heap:=s.heap.push { cls:=.type "tuple",data:=.seq ((items.toList.drop (lo.elim 0 (clipN items.size))).take (hi.elim items.size (clipN items.size)-lo.elim 0 (clipN items.size))).toArray } })
  (hsz:items.size<=sizeLine):wpAny (model prog w) A (getItem (.ref t) (.ref sl)) Q E s:=by
 have hdrop:sizeOk (.seq ((items.toList.drop (lo.elim 0 (clipN items.size))).take (hi.elim items.size (clipN items.size)-lo.elim 0 (clipN items.size))).toArray):=by
  show Array.size _<=sizeLine
  rw [List.size_toArray,List.length_take,List.length_drop,Array.length_toList]
  exact o294 hsz
 obtain ⟨os,hos,hcs,hds⟩:=id hs
 have hTs:s.TypeIs (.ref sl) "slice" := ⟨os,hos,hcs⟩
 unfold getItem
 try with_reducible refine wpAny_holding ?_
 first | refine wpAny_bind (wpAny_pure ?_) | skip
 refine wpAny_bind (wpAny_sequenceKey ht.typeIs (by decide) ?_)
 refine wpAny_bind (wpAny_callSpecial?_slot (name:=Str.ofString "__getitem__") ht.typeIs slot_tuple_getitem
  (wpAny_call_entry slot_tuple_getitem ht.typeIs entry_tuple_getitem ?_ (args_tuple_getitem _ _)))
 show wpAny _ _ (Builtin.Tuple.tupleItemsOf (.ref t) >>= _) _ _ s
 refine wpAny_bind (tupleItemsOf_ ht ?_)
 refine wpAny_bind (wpAny_typeOf hTs ?_)
 rw [if_pos (by decide)]
 refine wpAny_bind (sliceApplied_of hs pl pu ?_)
 generalize lo.elim 0 (clipN items.size)=a at *
 generalize hi.elim items.size (clipN items.size)=b at *
 show wpAny _ _ (if (((a:Int)==0)&&(1:Int)==1&&(b-a)==items.size)=true then _ else _) _ _ s
 split
 ·rename_i hc
  simp only [Bool.and_eq_true,beq_iff_eq] at hc
  have ha:a=0:=Int.ofNat_inj.1 hc.1.1
  refine wpAny_bind ?_
  unfold Builtin.Tuple.tupleIsExact
  refine wpAny_bind (wpAny_typeOf ht.typeIs (wpAny_pure ?_))
  rw [if_pos (by decide)]
  exact wpAny_bind (wpAny_rule (wpAny_pure ⟨_,rfl,wpAny_pure (hw ha (by have:=hc.2;rw [ha,Nat.sub_zero] at this;exact this))⟩))
 ·rw [pick_cut]
  exact wpAny_bind (m:=Builtin.Tuple.tupleExact _) (wpAny_newObj_type (wpAny_pure ⟨_,rfl,wpAny_pure h⟩) hdrop)
end
end Mine.Internal
end
section
set_option backward.eqns.nonrecursive false
namespace Mine.Internal
open PySem PySem.Spec PyProof.Rows
noncomputable def isSlice:Expr->Bool
 | .Slice ..=>true
 | _=>false
theorem subscripted_plain {e:Expr} (h:isSlice e=false) (o i:Value):subscripted e false o i=operate [o,i] (getItem o i):=by
 cases e<;>first | rfl | (cases h)
section
variable {c:Cx} {own:Addr->Option Nat} {ρ:Slots} {s s':Shared} {A:Around} {E:Value->Shared->Prop} {d d₁ d₂:PV} {v₁ v₂:Value}
theorem seqIndex_nat {i:Int} {n:Nat} (h0:0<=i) (h:i.toNat < n):seqIndex? i n=some i.toNat:=by
 unfold seqIndex?
 simp only [show ¬ i < 0 by exact o297 h0,if_false]
 rw [if_pos (by simp only [Bool.and_eq_true,decide_eq_true_eq];exact v11 h0 h)]
theorem getIdx_sound (hu:A.units+200 < cLine) {value slice:Expr} (hs:isSlice slice=false) (r₁:Tp c own s.heap d₁ v₁) (r₂:Tp c own s.heap d₂ v₂) (e:getIdx d₁ d₂=.ok d):
  Gives c own A (subscriptTail value slice v₁ v₂) .safe d s:=by
 intro E
 unfold getIdx at e
 split at e
 ·rename_i l i
  obtain ⟨a,vs,rfl,_,⟨n,hl⟩,hn,hr⟩:=r₁
  obtain ⟨t,rfl⟩:=r₂
  split at e
  ·rename_i h0
   split at e
   ·rename_i d' hd
    cases e
    obtain ⟨x,hx,hrx⟩:=hr.get hd
    have hlt:i.toNat < l.length:=(List.getElem?_eq_some_iff.mp hd).1
    refine tail_any (T := "list") ⟨_,hl,rfl⟩ slot_list_getitem.lookup (wpAny_getItem_list ⟨_,hl,rfl,n,rfl⟩ h0 ?_ (by rw [<-Array.getElem?_toList];exact hx) ⟨zC s s.toks,hrx⟩) (subscripted_plain hs _ _)
    exact big63 (Int.le_trans (Int.self_le_toNat _) (Int.ofNat_le.2 (Nat.le_of_lt hlt))) hn
   ·exact Res.no e
  ·exact Res.no e
 ·rename_i l i
  obtain ⟨a,vs,rfl,⟨n,hl⟩,hn,hr⟩:=r₁
  obtain ⟨t,rfl⟩:=r₂
  split at e
  ·rename_i h0
   split at e
   ·rename_i d' hd
    cases e
    obtain ⟨x,hx,hrx⟩:=hr.get hd
    have hlt:i.toNat < l.length:=(List.getElem?_eq_some_iff.mp hd).1
    have hlen:=hr.length
    refine tail_any (T := "tuple") ⟨_,hl,rfl⟩ slot_tuple_getitem.lookup (PyProof.Rows.getItem_tuple ⟨_,hl,rfl,n,rfl⟩ ?_ ?_ (seqIndex_nat h0 ?_) (by rw [<-Array.getElem?_toList];exact hx) ⟨zC s s.toks,hrx⟩) (subscripted_plain hs _ _)
    ·exact neg63 h0
    ·exact big63 (Int.le_trans (Int.self_le_toNat _) (Int.ofNat_le.2 (Nat.le_of_lt hlt))) hn
    ·rw [<-Array.length_toList];exact v14 hlt hlen
   ·exact Res.no e
  ·exact Res.no e
 ·rename_i l
  split at e
  ·rename_i k hk
   split at e
   ·rename_i hf
    split at e
    ·rename_i d' hd
     cases e
     obtain ⟨a,vs,rfl,_,n1,n,q,r⟩:=r₁
     cases d₂ with
     | int i=>
      cases hk
      obtain ⟨t,rfl⟩:=r₂
      obtain ⟨kvs,hm,e1,rfl⟩:=q.int hf
      obtain ⟨_,h2⟩:=valueAt_dget (i:=i) e1 r
      obtain ⟨v,hv,hrv⟩:=h2 _ hd
      exact tail_any (T := "dict") (hm.mapOf).typeIs slot_dict_getitem.lookup (wpAny_getItem_of (isInt_int i t) hm.mapOf hv ⟨zC _ _,hrv⟩) (subscripted_plain hs _ _)
     | tuple l'=>
      simp only [PV.key?,Option.map_eq_some_iff] at hk
      obtain ⟨is,hi,rfl⟩:=hk
      obtain ⟨b,us,rfl,⟨m,hb⟩,_,r1⟩:=r₂
      obtain ⟨xs,hm,e1,rfl,_⟩:=q.tup hf
      obtain ⟨_,h2⟩:=atKey_dget (i:=is) e1 r
      obtain ⟨p,hp,hrv⟩:=h2 _ hd
      have hkey:(tupleKind (intKind prog w)).is s.heap is b:=⟨_,us,m,hb,rfl,rfl,itemsAre_ints hi r1⟩
      exact tail_any (T := "dict") hm.typeIs slot_dict_getitem.lookup (wpAny_getItem_heap (tupleKind_room_in1 (by exact o291 hu)) hkey hm hp ⟨zC _ _,hrv⟩) (subscripted_plain hs _ _)
     | _=>cases hk
    ·exact Res.no e
   ·exact Res.no e
  ·exact Res.no e
 ·exact Res.no e
theorem toNat_max0 (a:Int):(max 0 a).toNat=a.toNat:=by
 rcases Int.le_total 0 a with h | h
 ·rw [Int.max_eq_right h]
 ·rw [Int.max_eq_left h,Int.toNat_of_nonpos h];rfl
theorem toNat_min (a:Int) (n:Nat) (h:0<=a):(min a n).toNat=min a.toNat n:=by
 obtain ⟨k,rfl⟩:=Int.eq_ofNat_of_zero_le h
 rcases Nat.le_total k n with q | q
 ·rw [Int.min_eq_left (Int.ofNat_le.2 q),Int.toNat_natCast,Nat.min_eq_left q]
 ·rw [Int.min_eq_right (Int.ofNat_le.2 q),Int.toNat_natCast,Int.toNat_natCast,Nat.min_eq_right q]
theorem clipAt_is (n:Nat) (i:Int):clipAt n i=clipN n i:=by
 unfold clipAt clipN
 rw [toNat_max0]
 by_cases h:i < 0
 ·rw [if_pos h,if_pos h,Int.min_eq_left (by exact o298 h)]
 ·rw [if_neg h,if_neg h,toNat_min i n (by exact o299 h)]
theorem cut_is (l:List PV) (a b:Nat):cut l a b=(l.drop a).take (b-a):=by
 unfold cut;rw [List.drop_take]
theorem subscripted_slice {l u:Option Expr} {p:Pos} (b:Bool) (o i:Value):subscripted (.Slice l u none p) b o i=operate [i,o] (getItem o i):=rfl
theorem slice_sound (x:St c own ρ s) {value:Expr} {l u:Option Expr} {p:Pos} {sl:Addr} {vl vu:Value} {lo hi:Option Int} (hsl:s.heap.IsSliceOf sl vl vu .none) (pl:IsPart vl lo) (pu:IsPart vu hi) (r₁:Tp c own s.heap d₁ v₁)
  (e:slc (lo.map .int) (hi.map .int) d₁=.ok d):Gives c own A (subscriptTail value (.Slice l u none p) v₁ (.ref sl)) .safe d s:=by
 intro E
 cases d₁ with
 | list ds=>
  obtain ⟨a,vs,rfl,ho,⟨n,hl⟩,hn,hr⟩:=r₁
  have hlen:vs.size=ds.length:=by rw [<-Array.length_toList];exact hr.length
  have hd:d=.list ((ds.drop (lo.elim 0 (clipN ds.length))).take (hi.elim ds.length (clipN ds.length)-lo.elim 0 (clipN ds.length))):=by
   cases lo<;>cases hi<;>first | (cases e;rw [cut_is];rfl) | cases e
  subst hd
  refine tail_any (T := "list") ⟨_,hl,rfl⟩ slot_list_getitem.lookup (wpAny_getItem_list_slice ⟨_,hl,rfl,n,rfl⟩ hsl pl pu .none (by simp) ?_ (by rw [hlen,<-lim_is];exact hn)) (subscripted_slice _ _ _)
  refine ⟨keeps_push _ _ _,RdC.rd x (k:=.fresh) rfl (newListC x ?_ ?_)⟩
  ·rw [List.length_take,List.length_drop];exact o294 hn
  ·rw [slicePick_plain]
   simp only [hlen]
   have e1:clipAt ds.length=clipN ds.length:=funext fun i=>clipAt_is _ _
   rw [e1]
   exact (hr.drop _).take _
 | tuple ds=>
  obtain ⟨a,vs,rfl,⟨n,hl⟩,hn,hr⟩:=r₁
  have hlen:vs.size=ds.length:=by rw [<-Array.length_toList];exact hr.length
  have hd:d=.tuple ((ds.drop (lo.elim 0 (clipN ds.length))).take (hi.elim ds.length (clipN ds.length)-lo.elim 0 (clipN ds.length))):=by
   cases lo<;>cases hi<;>first | (cases e;rw [cut_is];rfl) | cases e
  subst hd
  refine tail_any (T := "tuple") ⟨_,hl,rfl⟩ slot_tuple_getitem.lookup (getItem_tuple_slice ⟨_,hl,rfl,n,rfl⟩ hsl pl pu (fun h1 h2=>⟨zC s s.toks,?_⟩) ?_ (by rw [hlen,<-lim_is];exact hn)) (subscripted_slice _ _ _)
  ·rw [hlen] at h1 h2
   rw [h1,h2,List.drop_zero,Nat.sub_zero,List.take_length]
   exact ⟨a,vs,rfl,⟨n,hl⟩,hn,hr⟩
  ·refine ⟨keeps_push _ _ _,newTupleC ?_ ?_⟩
   ·rw [List.length_take,List.length_drop];exact o294 hn
   ·simp only [hlen]
    exact (hr.drop _).take _
 | _=>exact Res.no e
end
end Mine.Internal
end
section
set_option backward.eqns.nonrecursive false
namespace Mine.Internal
open PySem PySem.Spec PyProof.Rows
noncomputable def primVal:Prim->Value
 | .len=>.builtin "len"
 | .abs=>.builtin "abs"
 | .listOf | .listRange=>.type "list"
 | .tupleOf=>.type "tuple"
 | .intOf=>.type "int"
 | .all=>.builtin "all"
 | .any=>.builtin "any"
 | .max2=>.builtin "max"
 | _=>.none
noncomputable def primCl:Prim->Cl
 | .listOf | .listRange=>.fresh
 | _=>.safe
noncomputable def tyVal:Ty->String
 | .int => "int" | .bool => "bool" | .tuple => "tuple" | .list => "list" | .str => "str" | .seq => ""
section
variable {c:Cx} {own:Addr->Option Nat} {ρ:Slots} {s s':Shared} {A:Around} {E:Value->Shared->Prop} {d d₁ d₂:PV} {v v₁ v₂:Value} {h:Heap} {P O:Addr->Prop}
noncomputable def Tps (c:Cx) (own:Addr->Option Nat) (h:Heap):List PV->List Value->Prop
 | [],vs=>vs=[]
 | d::ds,vs=>∃ v r,vs=v::r/\Tp c own h d v/\Tps c own h ds r
theorem keeps_of {s:Shared} {h':Heap} {tk:Nat} (k:∀ b o,s.heap.get? b=some o->h'.get? b=some o):Keeps s (up s (h') (tk)):=⟨h',tk,rfl,k⟩
theorem bools_at:∀ {l:List PV} {bs:List Bool} {vs:List Value},bools? l=some bs->Rds h P l vs->vs.length=bs.length/\∀ (i:Nat) (v:Value),vs[i]?=some v->∃ b,bs[i]?=some b/\v=Value.bool b
 | [],_,_,e,r=>by cases e;rw [show _=_ from r];exact ⟨rfl,fun i v q=>by simp at q⟩
 | .bool b::l,_,_,e,⟨v,r,q,a,b'⟩=>by
  subst q
  simp only [bools?,Option.map_eq_some_iff] at e
  obtain ⟨is',e,rfl⟩:=e
  obtain ⟨h1,h2⟩:=bools_at e b'
  refine ⟨by simp [h1],fun i u hu=>?_⟩
  cases i with
  | zero=>simp at hu;subst hu;exact ⟨b,rfl,a⟩
  | succ j=>simp only [List.getElem?_cons_succ] at hu ⊢;exact h2 j u hu
 | .none::_,_,_,e,_=>noS e
 | .int _::_,_,_,e,_=>noS e
 | .tuple _::_,_,_,e,_=>noS e
 | .list _::_,_,_,e,_=>noS e
 | .dict _::_,_,_,e,_=>noS e
 | .str _::_,_,_,e,_=>noS e
 | .obj ..::_,_,_,e,_=>noS e
theorem all_range (bs:List Bool):(List.range bs.length).all (fun i=>bs.getD i false)=bs.all id:=by
 induction bs with
 | nil=>rfl
 | cons b r ih=>rw [List.length_cons,List.range_succ_eq_map,List.all_cons,List.all_map];simpa [Function.comp_def] using ih ▸ rfl
theorem any_range (bs:List Bool):(List.range bs.length).any (fun i=>bs.getD i false)=bs.any id:=by
 induction bs with
 | nil=>rfl
 | cons b r ih=>rw [List.length_cons,List.range_succ_eq_map,List.any_cons,List.any_map];simpa [Function.comp_def] using ih ▸ rfl
theorem rds_upto {h:Heap} {P:Addr->Prop}:∀ (n:Nat) (f:Nat->Int) (vs:List Value),vs.length=n->(∀ (j:Nat) (v:Value),vs[j]?=some v->∃ t,v=Value.int (f j) t)->Rds h P ((List.range n).map fun k=>PV.int (f k)) vs
 | 0,f,vs,e,_=>by have:=List.length_eq_zero_iff.mp e;subst this;rfl
 | n+1,f,[],e,_=>by simp at e
 | n+1,f,v::vs,e,q=>by
  rw [List.range_succ_eq_map,List.map_cons,List.map_map]
  obtain ⟨t,ht⟩:=q 0 v rfl
  refine ⟨v,vs,rfl,⟨t,ht⟩,?_⟩
  exact rds_upto n (fun k=>f (k+1)) vs (by simpa using e) fun j u hu=>q (j+1) u (by simpa using hu)
theorem lim63 {n:Nat} (h:n<=lim):(n:Int) < 2 ^ 63:=big63 (Int.le_refl _) h
theorem lenOf {h:Heap} {P:Addr->Prop} {l:List PV} {us:Array Value} (hr:Rds h P l us.toList):us.size=l.length:=by rw [<-Array.length_toList];exact hr.length
theorem ints_are:∀ {l:List PV} {is:List Int} {vs:List Value},PV.ints? l=some is->Rds h P l vs->IntsAre vs is
 | [],_,_,e,r=>by cases e;rw [show _=_ from r];exact .nil
 | .int i::l,_,_,e,⟨v,r,q,⟨t,a⟩,b⟩=>by
  subst q a
  simp only [PV.ints?,Option.map_eq_some_iff] at e
  obtain ⟨is',e,rfl⟩:=e
  exact .cons i t (ints_are e b)
 | .none::_,_,_,e,_=>noS e
 | .bool _::_,_,_,e,_=>noS e
 | .tuple _::_,_,_,e,_=>noS e
 | .list _::_,_,_,e,_=>noS e
 | .dict _::_,_,_,e,_=>noS e
 | .str _::_,_,_,e,_=>noS e
 | .obj ..::_,_,_,e,_=>noS e
theorem prim_sound (x:St c own ρ s) (hbig:3 < s.heap.objs.size) (hu:A.units+200 < cLine) (hh:A.handled=none) {p:Prim} {ds:List PV} {vs:List Value} (hp:primVal p≠.none) (hp':p≠.listRange) (r:Tps c own s.heap ds vs) (e:prim p ds=.ok d):
  Gives c own A (call (primVal p) vs) (primCl p) d s:=by
 intro E
 cases p with
 | isi t=>exact absurd rfl hp
 | listRange=>exact absurd rfl hp'
 | max2=>
  obtain ⟨d₁,d₂,rfl,e⟩:=p2_ok e
  obtain ⟨a,b,rfl,rfl,e⟩:=int2_ok e
  obtain ⟨v,_,rfl,⟨t,rfl⟩,v',_,rfl,⟨u,rfl⟩,rfl⟩:=r
  cases e
  refine max_two_ints hh fun h' tk k=>⟨keeps_of k,?_⟩
  show ∃ _,_
  split<;>exact ⟨_,rfl⟩
 | len=>
  obtain ⟨d₁,rfl,e⟩:=p1_ok e
  cases d₁ with
  | dict l=>
   obtain ⟨hf,e⟩:=if_ok (show (if (dfits l (.int 0))=true then Res.ok (PV.int l.length) else .stuck)=.ok d from e)
   cases e
   obtain ⟨v,_,rfl,⟨a,us,rfl,_,n1,hn,dr,hr⟩,rfl⟩:=r
   obtain ⟨kvs,hm,e1,rfl⟩:=dr.int hf
   have hkl:kvs.length=l.length:=by have:=congrArg List.length e1;simpa using this.symm
   exact PySem.call_len_dict (sysNe n1) hm (by rw [hkl];exact lim63 hn) ⟨zC _ _,_,by rw [hkl]⟩
  | list l=>obtain ⟨v,_,rfl,⟨a,us,rfl,_,⟨n,hl⟩,hn,hr⟩,rfl⟩:=r;cases e;exact Calls.call_len_list ⟨_,hl,rfl,n,rfl⟩ (by rw [lenOf hr];exact lim63 hn) ⟨zC _ _,_,by rw [lenOf hr]⟩
  | tuple l=>obtain ⟨v,_,rfl,⟨a,us,rfl,⟨n,hl⟩,hn,hr⟩,rfl⟩:=r;cases e;exact PyProof.Rows.len_tuple ⟨_,hl,rfl,n,rfl⟩ (by rw [lenOf hr];exact lim63 hn) ⟨zC _ _,_,by rw [lenOf hr]⟩
  | _=>exact Res.no e
 | abs=>
  obtain ⟨d₁,rfl,e⟩:=p1_ok e
  cases d₁ with
  | int i=>obtain ⟨v,_,rfl,⟨t,rfl⟩,rfl⟩:=r;cases e;exact call_abs_int fun u tk=>⟨zC _ _,_,rfl⟩
  | _=>exact Res.no e
 | listOf=>
  obtain ⟨d₁,rfl,e⟩:=p1_ok e
  cases d₁ with
  | tuple l=>
    obtain ⟨v,_,rfl,⟨a,us,rfl,⟨n,hl⟩,hn,hr⟩,rfl⟩:=r
    cases e
    refine call_list_seq a (.inr rfl) hl rfl rfl (fun h' c' k1 k2=>⟨keeps_of k1,s.heap.objs.size,us,rfl,newSize _,⟨c',k2⟩,hn,?_⟩) (by rw [lenOf hr,<-lim_is];exact hn)
    refine Rds.to (fun a o ho _=>k1 a o ho) l (Rds.imp (fun b o ho _ p=>⟨p,fun q=>?_⟩) l hr)
    injection q with q;rw [<-q,newSize] at ho;cases ho
  | _=>exact Res.no e
 | tupleOf=>
  obtain ⟨d₁,rfl,e⟩:=p1_ok e
  cases d₁ with
  | list l=>obtain ⟨v,_,rfl,⟨a,us,rfl,_,⟨n,hl⟩,hn,hr⟩,rfl⟩:=r;cases e;exact call_tuple_list ⟨_,hl,rfl,n,rfl⟩ (fun h' k=>⟨keeps_of fun b o ho=>Heap.get?_push_of_some _ (k b o ho),newTupleC hn (Rds.to (fun a o ho _=>k a o ho) l hr)⟩) (by rw [lenOf hr,<-lim_is];exact hn)
  | _=>exact Res.no e
 | intOf=>
  obtain ⟨d₁,rfl,e⟩:=p1_ok e
  cases d₁ with
  | bool b=>obtain ⟨v,_,rfl,rfl,rfl⟩:=r;cases e;exact call_int_bool ⟨zC _ _,_,rfl⟩
  | _=>exact Res.no e
 | all=>
  obtain ⟨d₁,rfl,e⟩:=p1_ok e
  cases d₁ with
  | list l=>
   have e:allB l=.ok d:=e
   cases hbs:bools? l with
   | none=>rw [allB,hbs] at e;cases e
   | some bs=>
    rw [allB,hbs] at e
    cases e
    obtain ⟨v,_,rfl,⟨a,us,rfl,_,⟨n,hl⟩,hn,hr⟩,rfl⟩:=r
    obtain ⟨h1,h2⟩:=bools_at hbs hr
    refine call_all_walk (wpAny_pyIter_list ⟨_,hl,rfl,n,rfl⟩ ?_)
    have hla:=Heap.lt_size hl
    refine ⟨s.heap.objs.size,_,_,_,_,_,fun i=>bs.getD i false,rfl,Walks.list (by exact hh) s.heap.objs.size a (Nat.ne_of_lt hla) us,⟨⟨_,Heap.get?_push_size _ rfl,rfl,rfl⟩,⟨_,Heap.get?_push_of_some _ hl,rfl,n,rfl⟩⟩,fun i v s Q E hv hq=>?_,fun h' tk k=>⟨?_,?_⟩⟩
    ·obtain ⟨b,hb,rfl⟩:=h2 i v (by rw [Array.getElem?_toList];exact hv)
     exact wpAny_truthy_bool (by simpa [List.getD,hb] using hq)
    ·exact ⟨h',tk,rfl,fun b o ho=>k b o (fun q=>by rw [List.mem_singleton.mp q,newSize] at ho;cases ho) (Heap.get?_push_of_some _ ho)⟩
    ·rw [<-Array.length_toList,h1,all_range];rfl
  | _=>exact Res.no e
 | any=>
  obtain ⟨d₁,rfl,e⟩:=p1_ok e
  cases d₁ with
  | list l=>
   have e:anyB l=.ok d:=e
   cases hbs:bools? l with
   | none=>rw [anyB,hbs] at e;cases e
   | some bs=>
    rw [anyB,hbs] at e
    cases e
    obtain ⟨v,_,rfl,⟨a,us,rfl,_,⟨n,hl⟩,hn,hr⟩,rfl⟩:=r
    obtain ⟨h1,h2⟩:=bools_at hbs hr
    refine call_any_walk (wpAny_pyIter_list ⟨_,hl,rfl,n,rfl⟩ ?_)
    have hla:=Heap.lt_size hl
    refine ⟨s.heap.objs.size,_,_,_,_,_,fun i=>bs.getD i false,rfl,Walks.list (by exact hh) s.heap.objs.size a (Nat.ne_of_lt hla) us,⟨⟨_,Heap.get?_push_size _ rfl,rfl,rfl⟩,⟨_,Heap.get?_push_of_some _ hl,rfl,n,rfl⟩⟩,fun i v s Q E hv hq=>?_,fun h' tk k=>⟨?_,?_⟩⟩
    ·obtain ⟨b,hb,rfl⟩:=h2 i v (by rw [Array.getElem?_toList];exact hv)
     exact wpAny_truthy_bool (by simpa [List.getD,hb] using hq)
    ·exact ⟨h',tk,rfl,fun b o ho=>k b o (fun q=>by rw [List.mem_singleton.mp q,newSize] at ho;cases ho) (Heap.get?_push_of_some _ ho)⟩
    ·rw [<-Array.length_toList,h1,any_range];rfl
  | _=>exact Res.no e
end
end Mine.Internal
end
section
namespace Mine.Internal
open PySem PySem.Spec PyProof.Rows
section
variable {c:Cx} {own:Addr->Option Nat} {ρ:Slots} {s s':Shared} {A:Around} {E:Value->Shared->Prop} {d d₁ d₂:PV} {v v₁ v₂:Value} {h:Heap} {P O:Addr->Prop}
theorem isi_sound {t:Ty} (ht:t≠.seq) (r:Tp c own s.heap d v) {x:PV} (e:isi1 t d=.ok x):∀ E,wpAny (model prog w) A (call (.builtin "isinstance") [v,.type (tyVal t)]) (fun u s'=>Keeps s s'/\∃ b,x=.bool b/\u=.bool b) E s:=by
 intro E
 cases t with
 | seq=>exact absurd rfl ht
 | int=>
  cases d with
  | int i=>obtain ⟨u,rfl⟩:=r;cases e;exact IsiPair.int_int ⟨zC s s.toks,_,rfl,rfl⟩
  | _=>exact Res.no e
 | bool=>
  cases d with
  | int i=>obtain ⟨u,rfl⟩:=r;cases e;exact IsiPair.int_bool ⟨zC _ _,_,rfl,rfl⟩
  | bool b=>cases r;cases e;exact IsiPair.bool_bool ⟨zC s s.toks,_,rfl,rfl⟩
  | _=>exact Res.no e
 | tuple=>
  cases d with
  | tuple l=>obtain ⟨a,us,rfl,⟨n,hl⟩,hn,hr⟩:=r;cases e;exact IsiPair.tuple_tuple hl rfl ⟨zC s s.toks,_,rfl,rfl⟩
  | _=>exact Res.no e
 | list=>
  cases d with
  | list l=>obtain ⟨a,us,rfl,_,⟨n,hl⟩,hn,hr⟩:=r;cases e;exact IsiPair.list_list hl rfl ⟨zC s s.toks,_,rfl,rfl⟩
  | _=>exact Res.no e
 | str=>
  cases d with
  | str i=>obtain ⟨_,u,rfl⟩:=r;cases e;exact IsiPair.str_str ⟨zC s s.toks,_,rfl,rfl⟩
  | _=>exact Res.no e
theorem isi_seq {tp:Addr} (ht:s.heap.get? tp=some { cls:=.type "tuple",data:=.seq #[.type "tuple",.type "list"] }) (r:Tp c own s.heap d v) {x:PV} (e:isi1 .seq d=.ok x):∀ E,wpAny (model prog w) A (call (.builtin "isinstance") [v,.ref tp]) (fun u s'=>Keeps s s'/\∃ b,x=.bool b/\u=.bool b) E s:=by
 intro E
 cases d with
 | tuple l=>obtain ⟨a,us,rfl,⟨n,hl⟩,hn,hr⟩:=r;cases e;exact IsiPair.tupleOfB (Tx := "tuple") (cs:=[.type "tuple",.type "list"]) (vs:=[true,false]) (.cons (.of_true PySem.F.isi_meta_tuple PySem.F.sub_tuple_tuple) (.cons (.of_false_tuple (by decide) PySem.F.isi_meta_list PySem.F.sub_tuple_list) .nil)) ⟨_,hl,rfl⟩ ht rfl fun tk=>⟨zC _ _,_,rfl,rfl⟩
 | list l=>obtain ⟨a,us,rfl,_,⟨n,hl⟩,hn,hr⟩:=r;cases e;exact IsiPair.tupleOfB (Tx := "list") (cs:=[.type "tuple",.type "list"]) (vs:=[false,true]) (.cons (.of_false_list (by decide) PySem.F.isi_meta_tuple PySem.F.sub_list_tuple) (.cons (.of_true PySem.F.isi_meta_list PySem.F.sub_list_list) .nil)) ⟨_,hl,rfl⟩ ht rfl fun tk=>⟨zC _ _,_,rfl,rfl⟩
 | _=>exact Res.no e
theorem size_one (k:Nat):Builtin.Range.rangeSize 0 k 1=k:=by
 unfold Builtin.Range.rangeSize
 simp only [show (1:Int) > 0 by decide,if_true,Int.ediv_one]
 split<;>(first | exact o302 | exact o303 (by assumption))
theorem listRange_sound (x:St c own ρ s) (hh:A.handled=none) {n:Int} {t:Tok} (e:prim .listRange [.int n]=.ok d):
  ∀ E,wpAny (model prog w) A (call (.type "range") [.int n t]) (fun r s₁=>wpAny (model prog w) A (call (.type "list") [r]) (fun v s'=>Keeps s s'/\RdC c own s.heap s'.heap .fresh d v) E s₁) E s:=by
 intro E
 simp only [prim,items,l1,rangeI] at e
 split at e
 ·rename_i hc
  simp only [Bool.and_eq_true,decide_eq_true_eq] at hc
  obtain ⟨k,rfl⟩:=Int.eq_ofNat_of_zero_le hc.1
  unfold lim at hc
  have hk:k<=16777216:=by exact o304 hc.2
  have he:d=.list ((List.range k).map fun (j:Nat)=>PV.int (j:Int)):=by
   simp only [Res.bind,mkL,upto,Int.sub_zero,Int.toNat_natCast,List.length_map,List.length_range,Int.zero_add] at e
   rw [if_pos (show k<=lim from hk)] at e
   cases e;rfl
  subst he
  refine call_range_1 (call_list_range hh (Heap.get?_push_size _ rfl) (n:=k) (PySem.small_one (by decide) (by decide) (neg62 (Int.natCast_nonneg _)) (big62 (Int.le_refl _) hk)) (size_one k) hk fun h' tk acc' c' k1 k2 k3=>⟨?_,?_⟩)
  ·exact ⟨h',tk,rfl,fun b o ho=>k1 b o (Heap.get?_push_of_some _ ho)⟩
  ·refine ⟨_,acc',rfl,?_,⟨c',k2⟩,by rw [List.length_map,List.length_range];exact hk,?_⟩
   ·show s.heap.get? (s.heap.push _).objs.size=none
    rw [Heap.size_push]
    cases q:s.heap.get? (s.heap.objs.size+1) with
    | none=>rfl
    | some o=>exact absurd (Heap.lt_size q) (Nat.not_lt.mpr (Nat.le_succ _))
   ·refine rds_upto k (fun j=>(j:Int)) _ (by rw [Array.length_toList];exact k3.1) fun j v hv=>?_
    obtain ⟨t,ht⟩:=k3.2 j v (by rw [<-Array.getElem?_toList];exact hv)
    exact ⟨t,by rw [ht];simp⟩
 ·exact Res.no e
theorem size_two {a b:Int} (h:a<=b):Builtin.Range.rangeSize a b 1=b-a:=by
 unfold Builtin.Range.rangeSize
 simp only [show (1:Int) > 0 by decide,if_true,Int.ediv_one]
 split<;>(first | exact o317 | exact o318 h (by assumption))
end
end Mine.Internal
end
section
set_option backward.eqns.nonrecursive false
namespace Mine.Internal
open PySem PySem.Spec PyProof.Rows
noncomputable def biTable:List (Str×Value):=
 [("len",.builtin "len"),("abs",.builtin "abs"),("range",.type "range"),("enumerate",.type "enumerate"),("list",.type "list"),("tuple",.type "tuple"),("int",.type "int"),("all",.builtin "all"),("any",.builtin "any"),
  ("max",.builtin "max"),("isinstance",.builtin "isinstance"),("bool",.type "bool"),("str",.type "str"),("ValueError",.type "ValueError")]
noncomputable def meths:List (Str×GE):=[("face",.fn 30 1 true),("leads",.fn 31 1 false),("drawing",.fn 32 1 false)]
noncomputable def GEOk (fa:Nat->Addr):GE->Value->Prop
 | .fn i _ _,v=>v=.ref (fa i)
 | .const d,v=>∃ i t,d=.int i/\v=.int i t
structure Exc2 (B:Heap) (C D R:Addr):Prop where
 own:∃ bm newId Bn initId mg,B.Ns mainGlobals mg/\mg ("NoDrawing" : Str)=some (.ref D)/\mg ("RopeError" : Str)=some (.ref R)/\OwnClsQ "NotFalling" C bm newId mg B/\ExcBaseFacts Bn newId initId bm
 isn:∃ K:PySem.W.Frag,K.In B/\xcOk K C D R=true
structure ArcIs (fa:Nat->Addr) (B:Heap) (N:Addr) (mN:Str->Option Value):Prop where
 at_:PlainAt B arcRec CA N mN
 fn:∀ x i ar fr,meths.lookup x=some (.fn i ar fr)->mN x=some (.ref (fa i))/\∃ o fd,B.get? (fa i)=some o/\o.cls=.type "function" /\ o.data=.func fd
structure Gnd (G:List (Str×GE)) (fa:Nat->Addr) (B:Heap):Prop where
 g:∃ mg,B.Ns mainGlobals mg/\(∀ x e,G.lookup x=some e->∃ v,mg x=some v/\GEOk fa e v)/\(∀ x v,(x,v)∈biTable->G.lookup x=none->mg x=none)/\mg ("Arc" : Str)=some (.ref CA)
 b:∃ mb,B.Ns builtinsNs mb/\∀ x v,(x,v)∈biTable->mb x=some v
 nolimit:B.NoLimit
 fn:∀ x i ar fr,G.lookup x=some (.fn i ar fr)->∃ o fd,B.get? (fa i)=some o/\o.data=.func fd
 arc:∃ N mN,ArcIs fa B N mN
 x:∃ C D R,Exc2 B C D R
inductive Fly (B:Heap) (A:Around) (s:Shared) (x:Value) (s':Shared):Prop where
 | mk (C D R a:Addr) (h':Heap) (tk:Nat) (o:Exc2 B C D R) (e:x=.ref a) (e':s'=(up s (h') (tk))) (g:GrowH (frs A) s.heap h') (hn:s.heap.get? a=none) (ht:h'.Traced s.heap a (.ref C))
structure Here (B:Heap) (D:Nat) (A:Around) (h:Heap):Prop where
 handled:A.handled=none
 depth:A.depth+D+10 < recursionLimit
 units:A.units+20*D+300 < cLine
 frames:∃ l,A.frames=some l/\∀ e∈l,e.scope.kind≠.module/\∃ L,e.frame=some L
 fr:∀ a∈frs A,∃ m,h.Ns a m
 base:∀ b o,B.get? b=some o->b∉frs A/\h.get? b=some o
section
noncomputable def RetRd (h₀ h:Heap) (P:Addr->Prop) (fr:Bool) (d:PV) (v:Value):Prop:=
 if fr then RdO h (fun b=>(P b\/h₀.get? b=none)/\v≠.ref b) (fun a=>h₀.get? a=none) d v else Rd h (fun b=>P b\/h₀.get? b=none) d v
noncomputable def FnOf (G:List (Str×GE)) (f:Str) (i ar:Nat) (fr:Bool):Prop:=G.lookup f=some (.fn i ar fr)\/meths.lookup f=some (.fn i ar fr)
noncomputable def CFv (B:Heap) (fa:Nat->Addr) (G:List (Str×GE)) (cf:Nat->List PV->Res PV) (D:Nat):Prop:=
 ∀ (A:Around) (s:Shared) (f:Str) (i ar:Nat) (fr:Bool) (ds:List PV) (vs:List Value) (P:Addr->Prop),FnOf G f i ar fr->ds.length=ar->Here B D A s.heap->(∀ a∈frs A,¬ P a)->Rds s.heap P ds vs->cf i ds≠.stuck ->
  codeAny (model prog w) A (.call (.ref (fa i)) ⟨vs,[]⟩) (fun r s'=>match r with
   | .ok (.ret v)=>∃ d,cf i ds=.ok d/\Grow A s s'/\RetRd s.heap s'.heap P fr d v
   | _=>False) s
noncomputable def CFx (B:Heap) (fa:Nat->Addr) (G:List (Str×GE)) (cf:Nat->List PV->Res PV) (D:Nat):Prop:=
 ∀ (A:Around) (s:Shared) (i ar:Nat) (fr:Bool) (ds:List PV) (vs:List Value) (P:Addr->Prop),G.lookup ("undone" : Str)=some (.fn i ar fr)->ds.length=ar->Here B D A s.heap->(∀ a∈frs A,¬ P a)->Rds s.heap P ds vs->cf (i+1000) ds≠.stuck ->
  codeAny (model prog w) A (.call (.ref (fa i)) ⟨vs,[]⟩) (fun r s'=>match r with
   | .error x=>Fly B A s x s'
   | _=>False) s
noncomputable def notObj:PV->Bool
 | .obj ..=>false
 | _=>true
structure CF (B:Heap) (fa:Nat->Addr) (G:List (Str×GE)) (cf:Nat->List PV->Res PV) (D:Nat):Prop where
 v:CFv B fa G cf D
 o:∀ m i ar fr,meths.lookup m=some (.fn i ar fr)->∀ d,notObj d=true->cf i [d]=.stuck
 x:CFx B fa G cf D
structure Fix where
 c:Cx
 t:TC
 B:Heap
 fa:Nat->Addr
 D:Nat
structure FixOk (f:Fix):Prop where
 ok:CxOk f.c
 scope:f.c.env.scope.names=f.t.scope
 names:f.c.names=f.t.slots
 mv:f.c.mv=f.t.mv
 gl:f.c.env.globals=mainGlobals
 bl:f.c.env.builtins=builtinsNs
 gnd:Gnd f.t.G f.fa f.B
 base:∀ b o,f.B.get? b=some o->b∉frs f.c.A/\f.c.h0.get? b=some o
 depth:f.c.A.depth+f.D+10 < recursionLimit
 units:f.c.A.units+20*f.D+300 < cLine
 cb:∀ x i,(x,i)∈f.t.slots->i < f.t.cbase
 mvb:∀ i∈f.t.mv,i < f.t.cbase
inductive VP (f:Fix) (own:Addr->Option Nat) (s:Shared) (k:Cl) (r:Res PV) (v:Value) (s':Shared):Prop where
 | mk (d:PV) (e:r=.ok d) (g:Grow f.c.A s s') (x:RdC f.c own s.heap s'.heap k d v)
abbrev BP (f:Fix) (s:Shared) (r:Res PV) (b:Bool) (s':Shared):Prop:=r=.ok (.bool b)/\Grow f.c.A s s'
def EvOK (f:Fix) (cf:Nat->List PV->Res PV) (e:Expr) (p:PE) (k:Cl):Prop:=
 ∀ own ρ s,St f.c own ρ s->ev cf ρ p≠.stuck->wpAny (model prog w) f.c.A (eval e f.c.env) (VP f own s k (ev cf ρ p)) (fun _ _=>False) s
def TrOK (f:Fix) (cf:Nat->List PV->Res PV) (e:Expr) (p:PE):Prop:=
 ∀ own ρ s,St f.c own ρ s->ev cf ρ p≠.stuck->(∀ d,ev cf ρ p=.ok d->∃ b,d=.bool b)->wpAny (model prog w) f.c.A (isTrue e f.c.env (eval e f.c.env)) (BP f s (ev cf ρ p)) (fun _ _=>False) s
end
section
variable {f:Fix} {cf:Nat->List PV->Res PV} {own:Addr->Option Nat} {ρ:Slots} {s:Shared} {e:Expr} {p:PE} {k:Cl}
theorem St.baseB (F:FixOk f) (x:St f.c own ρ s):∀ b o,f.B.get? b=some o->s.heap.get? b=some o:=fun b o h=>(x.base b o (F.base b o h).2).1 (F.base b o h).1
theorem St.here (F:FixOk f) (x:St f.c own ρ s):Here f.B f.D f.c.A s.heap where
 handled:=F.ok.handled
 depth:=F.depth
 units:=F.units
 frames:=F.ok.frames
 fr:=fun a h=>(x.fr a h).2
 base:=fun b o h=>⟨(F.base b o h).1,x.baseB F b o h⟩
theorem EvOK.use (h:EvOK f cf e p k) (F:FixOk f) (x:St f.c own ρ s) {β:Type} {g:PV->Res β} (hns:(ev cf ρ p).bind g≠.stuck) {Q:Value->Shared->Prop} {E:Value->Shared->Prop}
  (hQ:∀ d v s',ev cf ρ p=.ok d->(ev cf ρ p).bind g=g d->g d≠.stuck->Grow f.c.A s s'->St f.c own ρ s'->RdC f.c own s.heap s'.heap k d v->Q v s'):wpAny (model prog w) f.c.A (eval e f.c.env) Q E s:=by
 have hn:ev cf ρ p≠.stuck:=fun q=>hns (by rw [q];rfl)
 refine wpAny_mono (h own ρ s x hn) (fun v s' q=>?_) fun _ _ q=>q.elim
 ·obtain ⟨d,e1,g1,r⟩:=q
  have e2:(ev cf ρ p).bind g=g d:=by rw [e1];rfl
  exact hQ d v s' e1 e2 (e2 ▸ hns) g1 (x.grow F.ok g1) r
theorem TrOK.use (h:TrOK f cf e p) (F:FixOk f) (x:St f.c own ρ s) {β:Type} {g:PV->Res β} (hns:(ev cf ρ p).bind g≠.stuck) (hb:∀ d,(∀ b,d≠.bool b)->g d=.stuck) {Q:Bool->Shared->Prop} {E:Value->Shared->Prop}
  (hQ:∀ b s',ev cf ρ p=.ok (.bool b)->(ev cf ρ p).bind g=g (.bool b)->g (.bool b)≠.stuck->Grow f.c.A s s'->St f.c own ρ s'->Q b s'):wpAny (model prog w) f.c.A (isTrue e f.c.env (eval e f.c.env)) Q E s:=by
 have hn:ev cf ρ p≠.stuck:=fun q=>hns (by rw [q];rfl)
 have hbool:∀ d,ev cf ρ p=.ok d->∃ b,d=.bool b:=fun d q=>by
  cases d with
  | bool b=>exact ⟨b,rfl⟩
  | _=>exact absurd (by rw [q];exact hb _ fun b z=>by cases z) hns
 refine wpAny_mono (h own ρ s x hn hbool) (fun b s' q=>?_) fun _ _ q=>q.elim
 ·have e2:(ev cf ρ p).bind g=g (.bool b):=by rw [q.1];rfl
  exact hQ b s' q.1 e2 (e2 ▸ hns) q.2 (x.grow F.ok q.2)
theorem TrOK.ofValue (h:EvOK f cf e p k) (ho:∀ env whole,isTrue e env whole=(do let v <-whole;standAt e.pos;holding [v] (truthy v))):TrOK f cf e p:=by
 intro own ρ s x hn hb
 rw [ho]
 refine wpAny_bind (wpAny_mono (h own ρ s x hn) (fun v s' q=>?_) fun _ _ q=>q.elim)
 obtain ⟨d,e1,g1,r⟩:=q
 obtain ⟨b,rfl⟩:=hb d e1
 have hv:v=.bool b:=by cases k<;>exact r
 subst hv
 exact wpAny_bind (wpAny_standAt (wpAny_holding (wpAny_truthy_bool ⟨e1,g1⟩)))
theorem loadBi (F:FixOk f) (x:St f.c own ρ s) {y:Str} {v:Value} {Q E:Value->Shared->Prop} (hg:f.t.glob y=true) (hn:f.t.G.lookup y=none) (hb:(y,v)∈biTable) (h:Q v s):
  wpAny (model prog w) f.c.A (loadName f.c.env y) Q E s:=by
 obtain ⟨mg,h1,_,h2,_⟩:=F.gnd.g
 obtain ⟨mb,h3,h4⟩:=F.gnd.b
 have hk:f.c.env.kindOf y=some .globalImplicit:=by
  show f.c.env.scope.names.lookup y=_
  rw [F.scope];exact eq_of_beq hg
 rw [loadName_read F.ok.kind hk]
 exact Calls.loadGlobal_builtin (by rw [F.gl];exact h1.keeps (x.baseB F)) (h2 y v hb hn) (by rw [F.bl];exact h3.keeps (x.baseB F)) (h4 y v hb) h
theorem loadGl (F:FixOk f) (x:St f.c own ρ s) {y:Str} {g:GE} {Q E:Value->Shared->Prop} (hg:f.t.glob y=true) (hl:f.t.G.lookup y=some g) (h:∀ v,GEOk f.fa g v->Q v s):
  wpAny (model prog w) f.c.A (loadName f.c.env y) Q E s:=by
 obtain ⟨mg,h1,h2,_,_⟩:=F.gnd.g
 obtain ⟨v,hv,hok⟩:=h2 y g hl
 have hk:f.c.env.kindOf y=some .globalImplicit:=by
  show f.c.env.scope.names.lookup y=_
  rw [F.scope];exact eq_of_beq hg
 rw [loadName_read F.ok.kind hk]
 exact Calls.loadGlobal_global (by rw [F.gl];exact h1.keeps (x.baseB F)) hv (h v hok)
end
end Mine.Internal
end
section
set_option backward.eqns.nonrecursive false
namespace Mine.Internal
open PySem PySem.Spec PyProof.Rows
section
noncomputable def RdCs (c:Cx) (own:Addr->Option Nat) (h₀ h:Heap):List Cl->List PV->List Value->Prop
 | [],ds,vs=>ds=[]/\vs=[]
 | k::ks,ds,vs=>∃ d ds' v vs',ds=d::ds'/\vs=v::vs'/\RdC c own h₀ h k d v/\RdCs c own h₀ h ks ds' vs'
inductive EachOK (f:Fix) (cf:Nat->List PV->Res PV):List Expr->List (PE×Cl)->Prop
 | nil:EachOK f cf [] []
 | cons {e:Expr} {p:PE} {k:Cl} {es:List Expr} {l:List (PE×Cl)}:EvOK f cf e p k->TrOK f cf e p->EachOK f cf es l->EachOK f cf (e::es) ((p,k)::l)
end
section
variable {f:Fix} {cf:Nat->List PV->Res PV} {own:Addr->Option Nat} {ρ:Slots} {s:Shared} {e:Expr} {p:PE} {k:Cl}
theorem zD {e:Expr} {es:List Expr} {env:Env} (h:starred e=false):starEach (e::es) env=(false,eval e env)::starEach es env:=by
 cases e<;>first | rfl | (cases h)
theorem RdCs.cons {c:Cx} {h₀ h:Heap} {k:Cl} {ks:List Cl} {ds:List PV} {vs:List Value} (r:RdCs c own h₀ h (k::ks) ds vs) {M:List PV->List Value->Prop} (H:∀ d ds v vs,RdC c own h₀ h k d v->RdCs c own h₀ h ks ds vs->M (d::ds) (v::vs)):M ds vs:=by
 obtain ⟨d,ds',v,vs',rfl,rfl,a,b⟩:=r
 exact H d ds' v vs' a b
theorem RdCs.nil {c:Cx} {h₀ h:Heap} {ds:List PV} {vs:List Value} (r:RdCs c own h₀ h [] ds vs) {M:List PV->List Value->Prop} (H:M [] []):M ds vs:=by
 obtain ⟨rfl,rfl⟩:=r;exact H
theorem RdCs.grow {c:Cx} (x:St c own ρ s) {s₁ s₂:Shared} (g₁:Grow c.A s s₁) (ok:CxOk c) (g:Grow c.A s₁ s₂):∀ {ks:List Cl} {ds:List PV} {vs:List Value},RdCs c own s.heap s₁.heap ks ds vs->RdCs c own s.heap s₂.heap ks ds vs
 | [],_,_,r=>r
 | _::_,_,_,r=>r.cons fun d ds v vs a b=>⟨d,ds,v,vs,rfl,rfl,a.grow x g₁ ok g,RdCs.grow x g₁ ok g b⟩
theorem RdCs.back {c:Cx} {l:List Addr} {h₀ h:Heap} (g:GrowH l h₀ s.heap):∀ {ks:List Cl} {ds:List PV} {vs:List Value},RdCs c own s.heap h ks ds vs->RdCs c own h₀ h ks ds vs
 | [],_,_,r=>r
 | _::_,_,_,r=>r.cons fun d ds v vs a b=>⟨d,ds,v,vs,rfl,rfl,a.back g,RdCs.back g b⟩
theorem RdCs.tps {c:Cx} {h:Heap} (x:St c own ρ s):∀ {ks:List Cl} {ds:List PV} {vs:List Value},ks.all Cl.top=true->RdCs c own s.heap h ks ds vs->Tps c own h ds vs
 | [],_,_,_,r=>r.nil rfl
 | _::_,_,_,ht,r=>have ht:=Bool.and_eq_true_iff.1 ht;r.cons fun _ _ v vs a b=>⟨v,vs,rfl,a.tp x ht.1,RdCs.tps x ht.2 b⟩
theorem RdCs.rds {c:Cx} {h:Heap} (x:St c own ρ s):∀ {ks:List Cl} {ds:List PV} {vs:List Value},ks.all Cl.inner=true->RdCs c own s.heap h ks ds vs->Rds h (Fz c own) ds vs
 | [],_,_,_,r=>r.nil rfl
 | _::_,_,_,ht,r=>have ht:=Bool.and_eq_true_iff.1 ht;r.cons fun _ _ v vs a b=>⟨v,vs,rfl,a.rd x ht.1,RdCs.rds x ht.2 b⟩
theorem RdCs.anys {c:Cx} {h:Heap} (x:St c own ρ s):∀ {ks:List Cl} {ds:List PV} {vs:List Value},RdCs c own s.heap h ks ds vs->Rds h (fun a=>(c.P0 a\/c.h0.get? a=none)/\own a≠some dum) ds vs
 | [],_,_,r=>r.nil rfl
 | _::_,_,_,r=>r.cons fun _ _ v vs a b=>⟨v,vs,rfl,a.any x,RdCs.anys x b⟩
inductive SP (f:Fix) (own:Addr->Option Nat) (s:Shared) (ks:List Cl) (r:Res (List PV)) (vs:List Value) (s':Shared):Prop where
 | mk (ds:List PV) (e:r=.ok ds) (g:Grow f.c.A s s') (x:RdCs f.c own s.heap s'.heap ks ds vs)
theorem evs_sound (F:FixOk f) {pos:Pos} {es:List Expr} {l:List (PE×Cl)} (h:EachOK f cf es l):es.any starred=false->∀ {own:Addr->Option Nat} {ρ:Slots} {s:Shared},St f.c own ρ s->evs cf ρ (l.map (·.1))≠.stuck ->
  wpAny (model prog w) f.c.A (spliced (backTo pos (starEach es f.c.env))) (SP f own s (l.map (·.2)) (evs cf ρ (l.map (·.1)))) (fun _ _=>False) s:=by
 induction h with
 | nil=>exact fun _ {own ρ s} x _=>wpAny_items_nil ⟨[],rfl,Grow.refl s,rfl,rfl⟩
 | @cons e p k es l h1 _ h2 ih=>
  intro hs own ρ s x hn
  rw [List.any_cons,Bool.or_eq_false_iff] at hs
  refine wpAny_items_cons ?_ (zD hs.1)
  have eq:evs cf ρ (((p,k)::l).map (·.1))=(ev cf ρ p).bind fun x=>(evs cf ρ (l.map (·.1))).bind fun xs=>.ok (x::xs):=by rw [List.map_cons,evsC]
  rw [eq] at hn ⊢
  refine h1.use F x hn fun d v s₁ e1 e2 hn1 g1 x1 r=>?_
  rw [e2]
  exact wpAny_mono (ih hs.2 x1 fun q=>hn1 (by rw [q];rfl)) (fun vs s₂ q=>by cases q with | mk ds e g z=>exact ⟨d::ds,by rw [e];rfl,g1.trans g,d,ds,v,vs,rfl,rfl,r.grow x g1 F.ok g,z.back g1.h⟩) fun _ _ q=>q.elim
noncomputable def cOf:Const->Option PV
 | .none=>some .none
 | .bool b=>some (.bool b)
 | .int i=>some (.int i)
 | .str s=>if PyData.strOk s=true then some (.str s) else none
 | _=>none
theorem const_sound {c:Const} {kd:Nat} {pos:Pos} {d:PV} (h:cOf c=some d):EvOK f cf (.Constant c kd pos) (.const d) .safe:=by
 intro own ρ s x hn
 cases c with
 | none=>cases h;exact wpAny_Constant_none ⟨.none,rfl,Grow.refl s,rfl⟩
 | bool b=>cases h;exact wpAny_Constant_bool ⟨_,rfl,Grow.refl s,rfl⟩
 | int i=>cases h;exact wpAny_Constant_int ⟨_,rfl,Grow.tok _ _,_,rfl⟩
 | str z=>
  by_cases hs:PyData.strOk z=true
  ·rw [show cOf (.str z)=some (.str z) from if_pos hs] at h;cases h;exact wpAny_Constant_str ⟨_,rfl,Grow.tok _ _,hs,_,rfl⟩
  ·rw [show cOf (.str z)=none from if_neg hs] at h;cases h
 | _=>cases h
theorem slot_mem {t:TC} {x:Str} {i:Nat} (h:t.slot x=some i):(x,i)∈t.slots:=by
 unfold TC.slot at h
 split at h
 ·exact mem_of_lookup h
 ·cases h
theorem name_var (F:FixOk f) {x:Str} {pos:Pos} {i:Nat} (hd:(x==("__debug__" : Str))=false) (hi:f.t.slot x=some i):EvOK f cf (.Name x pos) (.var i) (if i∈f.t.mv then .own else .safe):=by
 intro own ρ s st hn
 refine wpAny_Name ?_ hd
 have hm:(x,i)∈f.c.names:=by rw [F.names];exact slot_mem hi
 cases hd':ρ[i]? with
 | none=>exact absurd (by simp only [vE1,slot,hd']) hn
 | some od=>
  cases od with
  | none=>exact absurd (by simp only [vE1,slot,hd']) hn
  | some d=>
   refine st.load F.ok hm hd' fun v hv=>⟨d,by simp only [vE1,slot,hd'],Grow.refl s,?_⟩
   unfold VRd at hv
   rw [F.mv] at hv
   by_cases hi':i∈f.t.mv
   ·rw [if_pos hi'] at hv ⊢
    exact RdO.imp (fun a _ _ _ (q:own a=some i)=>⟨st.ownNew a i q (by rw [F.mv];exact hi'),fun z=>by rw [q] at z;cases z;exact F.ok.dumNot (by rw [F.mv];exact hi'),fun z=>by rw [q] at z;cases z⟩) (fun _ _ _ _ q=>q) hv
   ·rw [if_neg hi'] at hv ⊢
    exact hv
theorem name_const (F:FixOk f) {x:Str} {pos:Pos} {d:PV} (hd:(x==("__debug__" : Str))=false) (hg:f.t.glob x=true) (hl:f.t.G.lookup x=some (.const d)):EvOK f cf (.Name x pos) (.const d) .safe:=by
 intro own ρ s st hn
 refine wpAny_Name (loadGl F st hg hl fun v hv=>⟨d,rfl,Grow.refl s,?_⟩) hd
 obtain ⟨i,t,rfl,rfl⟩:=hv
 exact ⟨t,rfl⟩
theorem bin_sound (F:FixOk f) {l r:Expr} {op:Operator} {pos:Pos} {a b:PE×Cl} {o:BOp} (ha:EvOK f cf l a.1 a.2) (hb:EvOK f cf r b.1 b.2) (ho:bopOf op=some o) (ht:(a.2.top&&b.2.top)=true):
  EvOK f cf (.BinOp l op r pos) (.bin o a.1 b.1) .fresh:=by
 intro own ρ s x hn
 simp only [Bool.and_eq_true] at ht
 dsimp only [vE6] at hn ⊢
 refine wpAny_BinOp (ha.use F x hn fun d v s₁ e1 e2 hn1 g1 x1 r1=>?_)
 rw [e2]
 refine hb.use F x1 hn1 fun d' v' s₂ e3 e4 hn2 g2 x2 r2=>?_
 rw [e4]
 cases q:binop o d d' with
 | stuck=>exact absurd q hn2
 | ok d''=>
  refine wpAny_mono (binop_sound x2 ho ((r1.tp x ht.1).grow x1 g2) (r2.tp x1 ht.2) q _) (fun v s₃ z=>⟨d'',rfl,(g1.trans g2).trans (.of_keeps z.1),z.2.back (g1.trans g2).h⟩) fun _ _ z=>z
theorem neg_sound (F:FixOk f) {x:Expr} {pos:Pos} {a:PE×Cl} (ha:EvOK f cf x a.1 a.2):EvOK f cf (.UnaryOp .USub x pos) (.neg a.1) .safe:=by
 intro own ρ s st hn
 dsimp only [vE7] at hn ⊢
 refine wpAny_UnaryOp (ha.use F st hn fun d v s₁ e1 e2 hn1 g1 x1 r1=>?_)
 rw [e2]
 cases d with
 | int i=>
  have hv:∃ t,v=.int i t:=by cases a with | mk a1 a2=>cases a2<;>exact r1
  obtain ⟨t,rfl⟩:=hv
  exact PyProof.Rows.neg_int ⟨_,rfl,g1.trans (Grow.tok _ _),_,rfl⟩
 | _=>exact absurd rfl hn1
theorem not_sound (F:FixOk f) {x:Expr} {pos:Pos} {a:PE×Cl} (ha:EvOK f cf x a.1 a.2):EvOK f cf (.UnaryOp .Not x pos) (.not a.1) .safe:=by
 intro own ρ s st hn
 dsimp only [vE8] at hn ⊢
 refine wpAny_UnaryOp (ha.use F st hn fun d v s₁ e1 e2 hn1 g1 x1 r1=>?_)
 rw [e2]
 cases d with
 | bool i=>
  have hv:v=.bool i:=by cases a with | mk a1 a2=>cases a2<;>exact r1
  subst hv
  exact not_value (wpAny_truthy_bool ⟨_,rfl,g1,rfl⟩)
 | _=>exact absurd rfl hn1
theorem not_test (F:FixOk f) {x:Expr} {pos:Pos} {a:PE} (ha:TrOK f cf x a):TrOK f cf (.UnaryOp .Not x pos) (.not a):=by
 intro own ρ s st hn _
 dsimp only [vE8] at hn ⊢
 refine wpAny_isTrue_Not (ha.use F st hn (fun d hd=>?_) fun b s₁ e1 e2 hn1 g1 x1=>?_)
 ·cases d with
  | bool b=>exact absurd rfl (hd b)
  | _=>rfl
 ·rw [e2];exact ⟨rfl,g1⟩
theorem ite_sound (F:FixOk f) {c a b:Expr} {pos:Pos} {pc:PE} {pa pb:PE×Cl} (hc:TrOK f cf c pc) (ha:EvOK f cf a pa.1 pa.2) (hb:EvOK f cf b pb.1 pb.2) (hi:(pa.2.inner&&pb.2.inner)=true):
  EvOK f cf (.IfExp c a b pos) (.ite pc pa.1 pb.1) .safe:=by
 intro own ρ s st hn
 simp only [Bool.and_eq_true] at hi
 dsimp only [vE13] at hn ⊢
 refine wpAny_IfExp (hc.use F st hn (fun d hd=>?_) fun t s₁ e1 e2 hn1 g1 x1=>?_)
 ·cases d with
  | bool b=>exact absurd rfl (hd b)
  | _=>rfl
 ·rw [e2]
  cases t with
  | true=>
   simp only [if_true] at hn1 ⊢
   refine wpAny_mono (ha own ρ s₁ x1 hn1) (fun v s₂ q=>?_) fun _ _ q=>q.elim
   ·obtain ⟨d,e3,g2,r⟩:=q;exact ⟨d,e3,g1.trans g2,r.rd x1 hi.1⟩
  | false=>
   simp only [Bool.false_eq_true,if_false] at hn1 ⊢
   refine wpAny_mono (hb own ρ s₁ x1 hn1) (fun v s₂ q=>?_) fun _ _ q=>q.elim
   ·obtain ⟨d,e3,g2,r⟩:=q;exact ⟨d,e3,g1.trans g2,r.rd x1 hi.2⟩
end
end Mine.Internal
end
section
namespace Mine.Internal
open PySem PySem.Spec PyProof.Rows
section
variable {f:Fix} {cf:Nat->List PV->Res PV} {own:Addr->Option Nat} {ρ:Slots} {s:Shared} {e:Expr} {p:PE} {k:Cl}
theorem boolVal {c:Cx} {h₀ h:Heap} {b:Bool} {v:Value} (r:RdC c own h₀ h k (.bool b) v):v=.bool b:=by cases k<;>exact r
theorem boolOp_cons2 {M:Model} {A:Around} {Q:Value->Shared->Prop} {E:Value->Shared->Prop} {pos:Pos} {op:BoolOp} {x y:Sem Value} {r:List (Sem Value)}
  (h:wpAny M A x (fun v s₁=>wpAny M A (truthy v) (fun t s₂=>match op,t with | .And,false | .Or,true=>Q v s₂ | _,_=>wpAny M A (boolOp pos op (y::r)) Q E s₂) E s₁) E s):wpAny M A (boolOp pos op (x::y::r)) Q E s:=by
 show wpAny M A (x >>= fun v=>standAt pos >>= fun _=>holding [v] (truthy v) >>= fun t=>match op,t with | .And,false | .Or,true=>pure v | _,_=>boolOp pos op (y::r)) Q E s
 refine wpAny_bind (wpAny_mono h (fun v s₁ q=>wpAny_bind (wpAny_standAt (wpAny_bind (wpAny_holding (wpAny_mono q (fun t s₂ z=>?_) fun _ _ z=>z))))) fun _ _ z=>z)
 cases op<;>cases t<;>first | exact wpAny_pure z | exact z
inductive OP (f:Fix) (s:Shared) (r:Res Bool) (v:Value) (s':Shared):Prop where
 | mk (b:Bool) (e:r=.ok b) (ev:v=.bool b) (g:Grow f.c.A s s')
theorem OP.after {f:Fix} {s s₁ s':Shared} {r:Res Bool} {v:Value} (q:OP f s₁ r v s') (g:Grow f.c.A s s₁):OP f s r v s':=by
 cases q with
 | mk b e ev g'=>exact ⟨b,e,ev,g.trans g'⟩
theorem and_value (F:FixOk f) {pos:Pos} {es:List Expr} {l:List (PE×Cl)} (h:EachOK f cf es l):es≠[]->∀ {own:Addr->Option Nat} {ρ:Slots} {s:Shared},St f.c own ρ s->evAnd cf ρ (l.map (·.1))≠.stuck ->
  wpAny (model prog w) f.c.A (boolOp pos .And (evalEach es f.c.env)) (OP f s (evAnd cf ρ (l.map (·.1)))) (fun _ _=>False) s:=by
 induction h with
 | nil=>exact fun he=>absurd rfl he
 | @cons e p k es l h1 _ h2 ih=>
  intro _ own ρ s x hn
  have eq:evAnd cf ρ (((p,k)::l).map (·.1))=(ev cf ρ p).bind fun x=>match x with | .bool b=>if b then evAnd cf ρ (l.map (·.1)) else .ok false | _=>.stuck:=by rw [List.map_cons,evAndC];try rfl
  rw [eq] at hn ⊢
  cases h2 with
  | nil=>
   refine h1.use F x hn fun d v s₁ e1 e2 hn1 g1 x1 r=>?_
   rw [e2]
   cases d with
   | bool b=>cases b<;>exact ⟨_,rfl,boolVal r,g1⟩
   | _=>exact absurd rfl hn1
  | cons h3 h4 h5=>
   refine boolOp_cons2 (h1.use F x hn fun d v s₁ e1 e2 hn1 g1 x1 r=>?_)
   rw [e2]
   cases d with
   | bool b=>
    rw [boolVal r]
    refine wpAny_truthy_bool ?_
    cases b with
    | false=>exact ⟨_,rfl,rfl,g1⟩
    | true=>exact wpAny_mono (ih (List.cons_ne_nil _ _) x1 hn1) (fun v s₂ q=>q.after g1) fun _ _ q=>q.elim
   | _=>exact absurd rfl hn1
theorem or_value (F:FixOk f) {pos:Pos} {es:List Expr} {l:List (PE×Cl)} (h:EachOK f cf es l):es≠[]->∀ {own:Addr->Option Nat} {ρ:Slots} {s:Shared},St f.c own ρ s->evOr cf ρ (l.map (·.1))≠.stuck ->
  wpAny (model prog w) f.c.A (boolOp pos .Or (evalEach es f.c.env)) (OP f s (evOr cf ρ (l.map (·.1)))) (fun _ _=>False) s:=by
 induction h with
 | nil=>exact fun he=>absurd rfl he
 | @cons e p k es l h1 _ h2 ih=>
  intro _ own ρ s x hn
  have eq:evOr cf ρ (((p,k)::l).map (·.1))=(ev cf ρ p).bind fun x=>match x with | .bool b=>if b then .ok true else evOr cf ρ (l.map (·.1)) | _=>.stuck:=by rw [List.map_cons,evOrC];try rfl
  rw [eq] at hn ⊢
  cases h2 with
  | nil=>
   refine h1.use F x hn fun d v s₁ e1 e2 hn1 g1 x1 r=>?_
   rw [e2]
   cases d with
   | bool b=>cases b<;>exact ⟨_,rfl,boolVal r,g1⟩
   | _=>exact absurd rfl hn1
  | cons h3 h4 h5=>
   refine boolOp_cons2 (h1.use F x hn fun d v s₁ e1 e2 hn1 g1 x1 r=>?_)
   rw [e2]
   cases d with
   | bool b=>
    rw [boolVal r]
    refine wpAny_truthy_bool ?_
    cases b with
    | true=>exact ⟨_,rfl,rfl,g1⟩
    | false=>exact wpAny_mono (ih (List.cons_ne_nil _ _) x1 hn1) (fun v s₂ q=>q.after g1) fun _ _ q=>q.elim
   | _=>exact absurd rfl hn1
theorem notBool_stuck {β:Type} {g:Bool->Res β} (d:PV) (hd:∀ b,d≠.bool b):(match d with | .bool b=>g b | _=>Res.stuck)=.stuck:=by
 cases d with
 | bool b=>exact absurd rfl (hd b)
 | _=>rfl
abbrev TP (f:Fix) (s:Shared) (r:Res Bool) (b:Bool) (s':Shared):Prop:=r=.ok b/\Grow f.c.A s s'
theorem and_test (F:FixOk f) {es:List Expr} {l:List (PE×Cl)} (h:EachOK f cf es l):∀ {own:Addr->Option Nat} {ρ:Slots} {s:Shared},St f.c own ρ s->evAnd cf ρ (l.map (·.1))≠.stuck ->
  wpAny (model prog w) f.c.A (allTrue .And es f.c.env) (TP f s (evAnd cf ρ (l.map (·.1)))) (fun _ _=>False) s:=by
 induction h with
 | nil=>exact fun {own ρ s} x _=>wpAny_allTrue_And_nil ⟨rfl,Grow.refl s⟩
 | @cons e p k es l _ h1 h2 ih=>
  intro own ρ s x hn
  have eq:evAnd cf ρ (((p,k)::l).map (·.1))=(ev cf ρ p).bind fun x=>match x with | .bool b=>if b then evAnd cf ρ (l.map (·.1)) else .ok false | _=>.stuck:=by rw [List.map_cons,evAndC];try rfl
  rw [eq] at hn ⊢
  refine wpAny_allTrue_And_cons (h1.use F x hn (fun d hd=>notBool_stuck d hd) fun b s₁ e1 e2 hn1 g1 x1=>?_)
  rw [e2]
  cases b with
  | false=>exact ⟨rfl,g1⟩
  | true=>exact wpAny_mono (ih x1 hn1) (fun v s₂ q=>⟨q.1,g1.trans q.2⟩) fun _ _ q=>q.elim
theorem or_test (F:FixOk f) {es:List Expr} {l:List (PE×Cl)} (h:EachOK f cf es l):∀ {own:Addr->Option Nat} {ρ:Slots} {s:Shared},St f.c own ρ s->evOr cf ρ (l.map (·.1))≠.stuck ->
  wpAny (model prog w) f.c.A (allTrue .Or es f.c.env) (TP f s (evOr cf ρ (l.map (·.1)))) (fun _ _=>False) s:=by
 induction h with
 | nil=>exact fun {own ρ s} x _=>wpAny_allTrue_Or_nil ⟨rfl,Grow.refl s⟩
 | @cons e p k es l _ h1 h2 ih=>
  intro own ρ s x hn
  have eq:evOr cf ρ (((p,k)::l).map (·.1))=(ev cf ρ p).bind fun x=>match x with | .bool b=>if b then .ok true else evOr cf ρ (l.map (·.1)) | _=>.stuck:=by rw [List.map_cons,evOrC];try rfl
  rw [eq] at hn ⊢
  refine wpAny_allTrue_Or_cons (h1.use F x hn (fun d hd=>notBool_stuck d hd) fun b s₁ e1 e2 hn1 g1 x1=>?_)
  rw [e2]
  cases b with
  | true=>exact ⟨rfl,g1⟩
  | false=>exact wpAny_mono (ih x1 hn1) (fun v s₂ q=>⟨q.1,g1.trans q.2⟩) fun _ _ q=>q.elim
theorem bind_ok {α β:Type} {r:Res α} {g:α->β} (h:(r.bind fun x=>.ok (g x))≠.stuck):r≠.stuck:=fun q=>h (by rw [q];rfl)
theorem boolop_sound (F:FixOk f) {op:BoolOp} {es:List Expr} {l:List (PE×Cl)} {pos:Pos} (h:EachOK f cf es l) (he:es≠[]):
  EvOK f cf (.BoolOp op es pos) (if op=.And then .and (l.map (·.1)) else .or (l.map (·.1))) .safe/\TrOK f cf (.BoolOp op es pos) (if op=.And then .and (l.map (·.1)) else .or (l.map (·.1))):=by
 cases op with
 | And=>
  rw [if_pos rfl]
  refine ⟨fun own ρ s x hn=>?_,fun own ρ s x hn _=>?_⟩
  ·dsimp only [vE11,vE12] at hn ⊢
   show wpAny _ _ (boolOp pos .And (evalEach es f.c.env)) _ _ s
   refine wpAny_mono (and_value F h he x (bind_ok hn)) (fun v s' q=>?_) fun _ _ q=>q.elim
   ·obtain ⟨b,e1,rfl,g⟩:=q;exact ⟨.bool b,by rw [e1];rfl,g,rfl⟩
  ·dsimp only [vE11,vE12] at hn ⊢
   refine wpAny_isTrue_BoolOp (wpAny_mono (and_test F h x (bind_ok hn)) (fun b s' q=>⟨by rw [q.1];rfl,q.2⟩) fun _ _ q=>q.elim)
 | Or=>
  rw [if_neg (by decide)]
  refine ⟨fun own ρ s x hn=>?_,fun own ρ s x hn _=>?_⟩
  ·dsimp only [vE11,vE12] at hn ⊢
   show wpAny _ _ (boolOp pos .Or (evalEach es f.c.env)) _ _ s
   refine wpAny_mono (or_value F h he x (bind_ok hn)) (fun v s' q=>?_) fun _ _ q=>q.elim
   ·obtain ⟨b,e1,rfl,g⟩:=q;exact ⟨.bool b,by rw [e1];rfl,g,rfl⟩
  ·dsimp only [vE11,vE12] at hn ⊢
   refine wpAny_isTrue_BoolOp (wpAny_mono (or_test F h x (bind_ok hn)) (fun b s' q=>⟨by rw [q.1];rfl,q.2⟩) fun _ _ q=>q.elim)
theorem tup_sound (F:FixOk f) {es:List Expr} {l:List (PE×Cl)} {kd:Nat} {pos:Pos} (h:EachOK f cf es l) (hs:es.any starred=false):
  EvOK f cf (.Tuple es kd pos) (.tup (l.map (·.1))) (clsJoin (l.map (·.2))):=by
 intro own ρ s x hn
 dsimp only [vE3] at hn ⊢
 have hn1:evs cf ρ (l.map (·.1))≠.stuck:=fun q=>hn (by rw [q];rfl)
 refine wpAny_Tuple (wpAny_mono (evs_sound F h hs x hn1) (fun vs s₁ q=>?_) fun _ _ q=>q.elim)
 ·obtain ⟨ds,e1,g1,r⟩:=q
  rw [e1] at hn ⊢
  simp only [Res.bind,mkT] at hn ⊢
  split at hn
  ·rename_i hl
   rw [if_pos hl]
   have x1:=x.grow F.ok g1
   unfold clsJoin
   split
   ·rename_i hi
    have hr:=r.rds x hi
    refine ⟨by rw [hr.length,<-lim_is];exact hl,_,rfl,g1.trans (Grow.push _ _ _),newTupleC hl hr⟩
   ·have hr:=r.anys x
    refine ⟨by rw [hr.length,<-lim_is];exact hl,_,rfl,g1.trans (Grow.push _ _ _),newTupleC hl hr⟩
  ·exact absurd rfl hn
theorem tup_fresh {e:Expr} {l:List PE} (h:EvOK f cf e (.tup l) .safe):EvOK f cf e (.tup l) .fresh:=by
 intro own ρ s x hn
 refine wpAny_mono (h own ρ s x hn) (fun v s' q=>?_) fun _ _ q=>q.elim
 cases q with
 | mk d e1 g r=>
  refine ⟨d,e1,g,?_⟩
  have:∃ l',d=.tuple l':=by
   rw [vE3] at e1
   cases q:evs cf ρ l with
   | ok ds=>rw [q] at e1;obtain ⟨_,e1⟩:=if_ok (show (if ds.length<=lim then Res.ok (PV.tuple ds) else .stuck)=.ok d from e1);cases e1;exact ⟨ds,rfl⟩
   | stuck=>rw [q] at e1;cases e1
  obtain ⟨l',rfl⟩:=this
  exact freshC (fun _ z=>by cases z) (fun _ z=>by cases z) (fun _ _ _ _ _ z=>by cases z) r
theorem lst_sound (F:FixOk f) {es:List Expr} {l:List (PE×Cl)} {pos:Pos} (h:EachOK f cf es l) (hs:es.any starred=false) (hc:clsJoin (l.map (·.2))=.safe):
  EvOK f cf (.List es pos) (.lst (l.map (·.1))) .fresh:=by
 intro own ρ s x hn
 dsimp only [vE4] at hn ⊢
 have hn1:evs cf ρ (l.map (·.1))≠.stuck:=fun q=>hn (by rw [q];rfl)
 have hi:(l.map (·.2)).all Cl.inner=true:=by unfold clsJoin at hc;split at hc<;>first | assumption | cases hc
 refine wpAny_List (wpAny_mono (evs_sound F h hs x hn1) (fun vs s₁ q=>?_) fun _ _ q=>q.elim)
 ·obtain ⟨ds,e1,g1,r⟩:=q
  rw [e1] at hn ⊢
  simp only [Res.bind,mkL] at hn ⊢
  split at hn
  ·rename_i hl
   rw [if_pos hl]
   have x1:=x.grow F.ok g1
   have hr:=r.rds x hi
   exact ⟨by rw [hr.length,<-lim_is];exact hl,_,rfl,g1.trans (Grow.push _ _ _),(newListC x1 hl hr).back g1.h⟩
  ·exact absurd rfl hn
theorem newDictC {c:Cx} (x:St c own ρ s) (h1:s.heap.objs.size≠1):RdC c own s.heap (s.heap.push { cls:=.type "dict",data:=.dict #[] }) .fresh (.dict []) (.ref s.heap.objs.size):=
 ⟨_,[],rfl,newSize _,h1,Nat.zero_le _,.inl ⟨[],⟨_,#[],0,Heap.get?_push_size _ rfl,⟨rfl,rfl,rfl⟩,rfl,fun _ he=>by simp at he,.nil,List.nodup_nil⟩,rfl,rfl⟩,rfl⟩
theorem St.big (F:FixOk f) (x:St f.c own ρ s):3 < s.heap.objs.size:=by
 obtain ⟨mg,⟨o,_,_,ho,_⟩,_⟩:=F.gnd.g
 exact Heap.lt_size (x.baseB F _ _ ho)
theorem dct0_sound (F:FixOk f) {pos:Pos}:EvOK f cf (.Dict [] [] pos) .dct0 .fresh:=by
 intro own ρ s x hn
 have:=x.big F
 exact wpAny_Dict_empty ⟨_,rfl,Grow.push _ _ _,newDictC x (by exact o310 this)⟩
theorem ok_bind {α β:Type} (a:α) (g:α->Res β):(Res.ok a).bind g=g a:=rfl
theorem cmp_parts (F:FixOk f) {op:CmpOp} {d₁ d₂:PV} {v₁ v₂:Value} (x:St f.c own ρ s) (r₁:Tp f.c own s.heap d₁ v₁) (r₂:Tp f.c own s.heap d₂ v₂) (hn:(cmpop (copOf op) d₁ d₂)≠.stuck) {E:Value->Shared->Prop}:
  wpAny (model prog w) f.c.A (compareOp op v₁ v₂) (fun v s'=>∃ b,cmpop (copOf op) d₁ d₂=.ok b/\v=.bool b/\Grow f.c.A s s') E s:=by
 have hu:f.c.A.units+200 < cLine:=by have:=F.units;exact o311 this
 cases q:cmpop (copOf op) d₁ d₂ with
 | stuck=>exact absurd q hn
 | ok b=>exact wpAny_mono (cmpop_sound hu op r₁ r₂ q E) (fun v s' z=>⟨b,rfl,z.2,.of_keeps z.1⟩) fun _ _ z=>z
theorem cmp_sound (F:FixOk f) {l r:Expr} {op:CmpOp} {pos:Pos} {a b:PE×Cl} (ha:EvOK f cf l a.1 a.2) (hb:EvOK f cf r b.1 b.2) (ht:(a.2.top&&b.2.top&&!behindInMarks op r)=true):
  EvOK f cf (.Compare l [op] [r] pos) (.cmp (copOf op) a.1 b.1) .safe/\TrOK f cf (.Compare l [op] [r] pos) (.cmp (copOf op) a.1 b.1):=by
 simp only [Bool.and_eq_true,Bool.not_eq_true'] at ht
 refine ⟨fun own ρ s x hn=>?_,fun own ρ s x hn _=>?_⟩
 ·dsimp only [vE9] at hn ⊢
  refine wpAny_Compare1 (ha.use F x hn fun d v s₁ e1 e2 hn1 g1 x1 r1=>?_) ht.2
  rw [e2]
  refine hb.use F x1 hn1 fun d' v' s₂ e3 e4 hn2 g2 x2 r2=>?_
  rw [e4]
  refine wpAny_mono (cmp_parts F x2 ((r1.tp x ht.1.1).grow x1 g2) (r2.tp x1 ht.1.2) (bind_ok hn2) (E:=fun _ _=>False)) (fun v s₃ q=>?_) fun _ _ z=>z.elim
  obtain ⟨bb,e5,rfl,g3⟩:=q
  exact ⟨.bool bb,by rw [e5];rfl,(g1.trans g2).trans g3,rfl⟩
 ·dsimp only [vE9] at hn ⊢
  refine wpAny_isTrue_Compare1 (ha.use F x hn fun d v s₁ e1 e2 hn1 g1 x1 r1=>?_) ht.2
  rw [e2]
  refine hb.use F x1 hn1 fun d' v' s₂ e3 e4 hn2 g2 x2 r2=>?_
  rw [e4]
  refine wpAny_mono (cmp_parts F x2 ((r1.tp x ht.1.1).grow x1 g2) (r2.tp x1 ht.1.2) (bind_ok hn2) (E:=fun _ _=>False)) (fun v s₃ q=>?_) fun _ _ z=>z.elim
  obtain ⟨bb,e5,rfl,g3⟩:=q
  exact wpAny_truthy_bool ⟨by rw [e5];rfl,(g1.trans g2).trans g3⟩
end
end Mine.Internal
end
section
set_option backward.eqns.nonrecursive false
namespace Mine.Internal
open PySem PySem.Spec PyProof.Rows
section
variable {f:Fix} {cf:Nat->List PV->Res PV} {own:Addr->Option Nat} {ρ:Slots} {s:Shared} {e:Expr} {p:PE} {k:Cl}
theorem idx_sound (F:FixOk f) {v i:Expr} {pos:Pos} {a b:PE×Cl} (hi:isSlice i=false) (ha:EvOK f cf v a.1 a.2) (hb:EvOK f cf i b.1 b.2) (hta:a.2.top=true) (htb:b.2.top=true):
  EvOK f cf (.Subscript v i pos) (.idx a.1 b.1) .safe:=by
 intro own ρ s x hn
 dsimp only [vE14] at hn ⊢
 refine Subscript_ (ha.use F x hn fun d v s₁ e1 e2 hn1 g1 x1 r1=>?_)
 rw [e2]
 refine hb.use F x1 hn1 fun d' v' s₂ e3 e4 hn2 g2 x2 r2=>?_
 rw [e4]
 cases q:getIdx d d' with
 | stuck=>exact absurd q hn2
 | ok d''=>
  have hu:f.c.A.units+200 < cLine:=by have:=F.units;exact o311 this
  exact wpAny_mono (getIdx_sound hu hi ((r1.tp x hta).grow x1 g2) (r2.tp x1 htb) q (fun _ _=>False)) (fun v s₃ z=>⟨d'',rfl,(g1.trans g2).trans (.of_keeps z.1),z.2⟩) fun _ _ z=>z.elim
theorem part_int {c:Cx} {h₀ h:Heap} {i:Int} {v:Value} (r:RdC c own h₀ h k (.int i) v):∃ t,v=.int i t:=by cases k<;>exact r
theorem slice_done (F:FixOk f) {v:Expr} {lo hi:Option Expr} {sp:Pos} {a:PE×Cl} {s₀ s₁ s₃:Shared} (x:St f.c own ρ s₀) (hta:a.2.top=true) {d:PV} {ov vl vu:Value} {l u:Option Int} (g1:Grow f.c.A s₀ s₁) (r1:RdC f.c own s₀.heap s₁.heap a.2 d ov) (g3:Grow f.c.A s₁ s₃)
  (pl:IsPart vl l) (pu:IsPart vu u) (R:Res PV) (hR:R=slc (l.map .int) (u.map .int) d) (hn:R≠.stuck):
  wpAny (model prog w) f.c.A (subscriptTail v (.Slice lo hi none sp) ov (.ref s₃.heap.objs.size)) (VP f own s₀ .safe R) (fun _ _=>False)
   { s₃ with heap:=s₃.heap.push { cls:=.type "slice",data:=.fields #[vl,vu,.none] } }:=by
 have gp:Grow f.c.A s₃ { s₃ with heap:=s₃.heap.push { cls:=.type "slice",data:=.fields #[vl,vu,.none] } }:=Grow.push _ _ _
 have x3:=(x.grow F.ok g1).grow F.ok (g3.trans gp)
 cases q:slc (l.map .int) (u.map .int) d with
 | stuck=>exact absurd (hR.trans q) hn
 | ok d'=>
  have hr:=((r1.tp x hta).grow (x.grow F.ok g1) (g3.trans gp))
  exact wpAny_mono (slice_sound x3 (Heap.IsSliceOf.new ..) pl pu hr q (fun _ _=>False)) (fun v s₄ z=>⟨d',hR.trans q,((g1.trans g3).trans gp).trans (.of_keeps z.1),z.2⟩) fun _ _ z=>z.elim
theorem slice_ints {lo hi:Option PV} {l:List PV} (h:slice lo hi l≠none):(∀ y,lo=some y->∃ i,y=.int i)/\∀ z,hi=some z->∃ i,z=.int i:=by
 cases lo with
 | none=>
  refine ⟨fun y q=>(by cases q),fun z q=>?_⟩
  subst q
  cases z with
  | int i=>exact ⟨i,rfl⟩
  | _=>exact absurd rfl h
 | some y=>
  have hy:∃ i,y=.int i:=by
   cases y with
   | int i=>exact ⟨i,rfl⟩
   | _=>exact absurd rfl h
  refine ⟨fun y' q=>(by cases q;exact hy),fun z q=>?_⟩
  obtain ⟨i,rfl⟩:=hy
  subst q
  cases z with
  | int i=>exact ⟨i,rfl⟩
  | _=>exact absurd rfl h
theorem slc_ints {lo hi:Option PV} {d:PV} (h:slc lo hi d≠.stuck):(∀ y,lo=some y->∃ i,y=.int i)/\∀ z,hi=some z->∃ i,z=.int i:=by
 cases d with
 | list l=>exact slice_ints (l:=l) fun q=>h (by show (match slice lo hi l with | some l=>Res.ok (PV.list l) | none=>.stuck)=_;rw [q])
 | tuple l=>exact slice_ints (l:=l) fun q=>h (by show (match slice lo hi l with | some l=>Res.ok (PV.tuple l) | none=>.stuck)=_;rw [q])
 | _=>exact absurd rfl h
theorem slL_sound (F:FixOk f) {v lo:Expr} {pos sp:Pos} {a b:PE×Cl} (ha:EvOK f cf v a.1 a.2) (hb:EvOK f cf lo b.1 b.2) (hta:a.2.top=true):EvOK f cf (.Subscript v (.Slice (some lo) none none sp) pos) (.slL a.1 b.1) .safe:=by
 intro own ρ s x hn
 dsimp only [vE16] at hn ⊢
 refine Subscript_ (ha.use F x hn fun d v s₁ e1 e2 hn1 g1 x1 r1=>?_)
 rw [e2]
 refine wpAny_Slice (hb.use F x1 hn1 fun d' v' s₂ e3 e4 hn2 g2 x2 r2=>wpAny_pure (wpAny_pure ?_))
 rw [e4]
 obtain ⟨i,rfl⟩:=(slc_ints hn2).1 _ rfl
 obtain ⟨t,rfl⟩:=part_int r2
 exact slice_done F x hta g1 r1 g2 (.int i t) .none _ rfl hn2
theorem slH_sound (F:FixOk f) {v hi:Expr} {pos sp:Pos} {a b:PE×Cl} (ha:EvOK f cf v a.1 a.2) (hb:EvOK f cf hi b.1 b.2) (hta:a.2.top=true):EvOK f cf (.Subscript v (.Slice none (some hi) none sp) pos) (.slH a.1 b.1) .safe:=by
 intro own ρ s x hn
 dsimp only [vE17] at hn ⊢
 refine Subscript_ (ha.use F x hn fun d v s₁ e1 e2 hn1 g1 x1 r1=>?_)
 rw [e2]
 refine wpAny_Slice (wpAny_pure (hb.use F x1 hn1 fun d' v' s₂ e3 e4 hn2 g2 x2 r2=>(wpAny_pure ?_)))
 rw [e4]
 obtain ⟨i,rfl⟩:=(slc_ints hn2).2 _ rfl
 obtain ⟨t,rfl⟩:=part_int r2
 exact slice_done F x hta g1 r1 g2 .none (.int i t) _ rfl hn2
theorem slLH_sound (F:FixOk f) {v lo hi:Expr} {pos sp:Pos} {a b c:PE×Cl} (ha:EvOK f cf v a.1 a.2) (hb:EvOK f cf lo b.1 b.2) (hc:EvOK f cf hi c.1 c.2) (hta:a.2.top=true):EvOK f cf (.Subscript v (.Slice (some lo) (some hi) none sp) pos) (.slLH a.1 b.1 c.1) .safe:=by
 intro own ρ s x hn
 dsimp only [vE27] at hn ⊢
 refine Subscript_ (ha.use F x hn fun d v s₁ e1 e2 hn1 g1 x1 r1=>?_)
 rw [e2]
 refine wpAny_Slice (hb.use F x1 hn1 fun d' v' s₂ e3 e4 hn2 g2 x2 r2=>hc.use F x2 hn2 fun d'' v'' s₃ e5 e6 hn3 g3 x3 r3=>wpAny_pure ?_)
 rw [e4,e6]
 obtain ⟨i,rfl⟩:=(slc_ints hn3).1 _ rfl
 obtain ⟨j,rfl⟩:=(slc_ints hn3).2 _ rfl
 obtain ⟨t,rfl⟩:=part_int r2
 obtain ⟨u,rfl⟩:=part_int r3
 exact slice_done F x hta g1 r1 (g2.trans g3) (.int i t) (.int j u) _ rfl hn3
theorem EvOK.int (h:EvOK f cf e p k) (x:St f.c own ρ s) {i:Int} (he:ev cf ρ p=.ok (.int i)) {Q E:Value->Shared->Prop} (hQ:∀ t s',Grow f.c.A s s'->Q (.int i t) s'):wpAny (model prog w) f.c.A (eval e f.c.env) Q E s:=by
 refine wpAny_mono (h own ρ s x (by rw [he];exact fun q=>by cases q)) (fun v s' q=>?_) fun _ _ q=>q.elim
 obtain ⟨d,e1,g1,r⟩:=q
 rw [he] at e1;cases e1
 obtain ⟨t,rfl⟩:=part_int r
 exact hQ t s' g1
theorem chain_ok {a b c d:PE} (hn:ev cf ρ (.chain a b c d)≠.stuck):∃ i j k l:Int,ev cf ρ a=.ok (.int i)/\ev cf ρ b=.ok (.int j)/\ev cf ρ c=.ok (.int k)/\ev cf ρ d=.ok (.int l)/\i<=j/\j<=k/\k<=l/\ev cf ρ (.chain a b c d)=.ok (.bool true):=by
 rw [vE29] at hn ⊢
 obtain ⟨x,qa,hn⟩:=bind_ok' hn
 obtain ⟨y,qb,hn⟩:=bind_ok' hn
 obtain ⟨z,qc,hn⟩:=bind_ok' hn
 obtain ⟨u,qd,hn⟩:=bind_ok' hn
 cases qr:chain4 x y z u with
 | stuck=>exact absurd qr hn
 | ok r=>
  obtain ⟨i,j,rfl,rfl,qr⟩:=int2_ok qr
  obtain ⟨k,l,rfl,rfl,qr⟩:=int2_ok qr
  obtain ⟨hc,qr⟩:=if_ok qr
  have e:chain4 (.int i) (.int j) (.int k) (.int l)=.ok (.bool true):=if_pos hc
  have hc':=Bool.and_eq_true_iff.1 hc
  have hc2:=Bool.and_eq_true_iff.1 hc'.1
  exact ⟨i,j,k,l,qa,qb,qc,qd,of_decide_eq_true hc2.1,of_decide_eq_true hc2.2,of_decide_eq_true hc'.2,by rw [qa,bindK,qb,bindK,qc,bindK,qd];exact e⟩
theorem le_true {A:Around} {i j:Int} {t u:Tok} (h:i<=j) {Q E:Value->Shared->Prop} (hq:Q (.bool true) s):wpAny (model prog w) A (compareOp .LtE (.int i t) (.int j u)) Q E s:=
 PyProof.Rows.le_int (by rw [decide_eq_true h];exact hq)
theorem chain_sound (F:FixOk f) {l r₁ r₂ r₃:Expr} {pos:Pos} {a b c d:PE×Cl} (ha:EvOK f cf l a.1 a.2) (hb:EvOK f cf r₁ b.1 b.2) (hc:EvOK f cf r₂ c.1 c.2) (hd:EvOK f cf r₃ d.1 d.2) (hm:lastMarks [.LtE,.LtE,.LtE] [r₁,r₂,r₃]=false):
  EvOK f cf (.Compare l [.LtE,.LtE,.LtE] [r₁,r₂,r₃] pos) (.chain a.1 b.1 c.1 d.1) .safe/\TrOK f cf (.Compare l [.LtE,.LtE,.LtE] [r₁,r₂,r₃] pos) (.chain a.1 b.1 c.1 d.1):=by
 refine ⟨fun own ρ s x hn=>?_,fun own ρ s x hn _=>?_⟩
 ·obtain ⟨i,j,k,m,e1,e2,e3,e4,h1,h2,h3,e⟩:=chain_ok hn
  rw [e]
  refine Compare_chain (ha.int x e1 fun t s₁ g1=>chain_link (hb.int (x.grow F.ok g1) e2 fun t₂ s₂ g2=>le_true h1 (wpAny_truthy_bool ?_))) hm
  refine chain_link (hc.int ((x.grow F.ok g1).grow F.ok g2) e3 fun t₃ s₃ g3=>le_true h2 (wpAny_truthy_bool ?_))
  exact chain_last (hd.int (((x.grow F.ok g1).grow F.ok g2).grow F.ok g3) e4 fun t₄ s₄ g4=>le_true h3 ⟨_,rfl,((g1.trans g2).trans g3).trans g4,rfl⟩)
 ·obtain ⟨i,j,k,m,e1,e2,e3,e4,h1,h2,h3,e⟩:=chain_ok hn
  rw [e]
  refine isTrue_chain (ha.int x e1 fun t s₁ g1=>test_link (hb.int (x.grow F.ok g1) e2 fun t₂ s₂ g2=>le_true h1 (wpAny_truthy_bool ?_))) hm
  refine test_link (hc.int ((x.grow F.ok g1).grow F.ok g2) e3 fun t₃ s₃ g3=>le_true h2 (wpAny_truthy_bool ?_))
  exact test_last (hd.int (((x.grow F.ok g1).grow F.ok g2).grow F.ok g3) e4 fun t₄ s₄ g4=>le_true h3 (wpAny_truthy_bool ⟨rfl,((g1.trans g2).trans g3).trans g4⟩))
theorem backTo_plain {es:List Expr} {pos:Pos} {env:Env} (h:es.any starred=false):(backTo pos (starEach es env)).any (·.1)=false:=by
 induction es with
 | nil=>rfl
 | cons e r ih=>
  simp only [List.any_cons,Bool.or_eq_false_iff] at h
  rw [zD h.1]
  simp only [backTo,List.map_cons,List.any_cons,Bool.false_or]
  exact ih h.2
theorem zG {fv:Value} {es:List Expr} {pos:Pos} {env:Env} {M:Model} {A:Around} {Q:Args->Shared->Prop} {E:Value->Shared->Prop} (hs:es.any starred=false) (hne:es≠[])
  (h:wpAny M A (spliced (backTo pos (starEach es env))) (fun vs s'=>Q ⟨vs,[]⟩ s') E s):wpAny M A (evalArgs fv true (backTo pos (starEach es env)) []) Q E s:=by
 cases es with
 | nil=>exact absurd rfl hne
 | cons e r=>
  simp only [List.any_cons,Bool.or_eq_false_iff] at hs
  rw [zD hs.1] at h ⊢
  exact Calls.evalArgs_plain h
theorem call_bi (F:FixOk f) {g:Str} {gp pos:Pos} {es:List Expr} {l:List (PE×Cl)} {fv:Value} (hb:(g,fv)∈biTable) (hg:f.t.bi g g=true) (hd:(g==("__debug__" : Str))=false) (hfv:(∃ id,fv=.builtin id)\/∃ T,fv=.type T)
  (h:EachOK f cf es l) (hs:es.any starred=false) (hne:es≠[]) (x:St f.c own ρ s) (hn:evs cf ρ (l.map (·.1))≠.stuck) {Q:Value->Shared->Prop} {E:Value->Shared->Prop}
  (hQ:∀ ds vs s₁,evs cf ρ (l.map (·.1))=.ok ds->Grow f.c.A s s₁->St f.c own ρ s₁->RdCs f.c own s.heap s₁.heap (l.map (·.2)) ds vs->wpAny (model prog w) f.c.A (call fv vs) Q E s₁):
  wpAny (model prog w) f.c.A (eval (.Call (.Name g gp) es [] pos) f.c.env) Q E s:=by
 simp only [TC.bi,Bool.and_eq_true,Option.isNone_iff_eq_none,beq_self_eq_true,and_true] at hg
 refine wpAny_Call_NameR (wpAny_Name (loadBi F x hg.1 hg.2 hb ?_) hd)
 have key:wpAny (model prog w) f.c.A (spliced (backTo pos (starEach es f.c.env))) (fun vs s₁=>wpAny (model prog w) f.c.A (call fv vs) Q E s₁) E s:=by
  refine wpAny_mono (evs_sound F h hs x hn) (fun vs s₁ q=>?_) fun _ _ q=>q.elim
  ·obtain ⟨ds,e1,g1,r⟩:=q;exact hQ ds vs s₁ e1 g1 (x.grow F.ok g1) r
 rcases hfv with ⟨id,rfl⟩ | ⟨T,rfl⟩
 ·exact Calls.callWith_builtin (backTo_plain hs) (zG hs hne key)
 ·exact PySem.callWith_type (backTo_plain hs) (zG hs hne key)
end
end Mine.Internal
end
section
set_option backward.eqns.nonrecursive false
namespace Mine.Internal
open PySem PySem.Spec PyProof.Rows
section
variable {f:Fix} {cf:Nat->List PV->Res PV} {own:Addr->Option Nat} {ρ:Slots} {s:Shared} {e:Expr} {p:PE} {k:Cl}
theorem bi_eq {t:TC} {x y:Str} (h:t.bi x y=true):x=y/\t.bi x x=true:=by
 simp only [TC.bi,Bool.and_eq_true] at h ⊢
 exact ⟨eq_of_beq h.2,h.1,by simp⟩
noncomputable def isBT:Value->Bool
 | .builtin _ | .type _=>true
 | _=>false
noncomputable def isLR:Prim->Bool
 | .listRange=>true
 | _=>false
theorem primTab_ok:∀ q∈primTab,(q.1,primVal q.2)∈biTable/\isLR q.2=false/\isBT (primVal q.2)=true:=by decide +kernel
theorem isBT_ok {v:Value} (h:isBT v=true):v≠.none/\((∃ id,v=.builtin id)\/∃ T,v=.type T):=by
 cases v with
 | builtin id=>exact ⟨fun z=>(by cases z),.inl ⟨_,rfl⟩⟩
 | type T=>exact ⟨fun z=>(by cases z),.inr ⟨_,rfl⟩⟩
 | _=>cases h
theorem primOf_ok {t:TC} {g:Str} {p:Prim} (hp:primOf t g=some p):t.bi g g=true/\(g,primVal p)∈biTable/\isLR p=false/\isBT (primVal p)=true:=by
 unfold primOf at hp
 split at hp
 ·rename_i h1
  refine ⟨h1,?_⟩
  exact primTab_ok (g,p) (mem_of_lookup hp)
 ·cases hp
theorem primcall_sound (F:FixOk f) {g:Str} {gp pos:Pos} {es:List Expr} {l:List (PE×Cl)} {p:Prim} (hp:primOf f.t g=some p) (hd:(g==("__debug__" : Str))=false)
  (h:EachOK f cf es l) (hs:es.any starred=false) (hne:es≠[]) (ht:(l.map (·.2)).all Cl.top=true):EvOK f cf (.Call (.Name g gp) es [] pos) (.prim p (l.map (·.1))) (primCl p):=by
 intro own ρ s x hn
 obtain ⟨h1,h3⟩:=primOf_ok hp
 have h4:=isBT_ok h3.2.2
 have hn1:evs cf ρ (l.map (·.1))≠.stuck:=fun q=>hn (by rw [vE20,q];rfl)
 refine call_bi F h3.1 h1 hd h4.2 h hs hne x hn1 fun ds vs s₁ e1 g1 x1 r=>?_
 have e2:ev cf ρ (.prim p (l.map (·.1)))=prim p ds:=by rw [vE20,e1];rfl
 rw [e2] at hn ⊢
 cases q:prim p ds with
 | stuck=>exact absurd q hn
 | ok d=>exact wpAny_mono (prim_sound x1 (x1.big F) (by have:=F.units;exact o311 this) F.ok.handled h4.1 (fun z=>by have:=h3.2.1;rw [z] at this;cases this) (r.tps x ht) q (fun _ _=>False)) (fun v s₂ z=>⟨d,rfl,g1.trans (.of_keeps z.1),z.2.back g1.h⟩) fun _ _ z=>z.elim
theorem ev_prim1 {p:Prim} {a:PE}:ev cf ρ (.prim p [a])=(ev cf ρ a).bind fun d=>prim p [d]:=by rw [vE20,evsC,evsN];cases ev cf ρ a<;>rfl
noncomputable def isSq:Ty->Bool
 | .seq=>true
 | _=>false
theorem tyTab_ok':∀ q∈tyTab,(q.1,Value.type (tyVal q.2))∈biTable/\(q.1==("__debug__" : Str))=false/\isSq q.2=false:=by decide +kernel
theorem tyTab_ok:∀ q∈tyTab,(q.1,Value.type (tyVal q.2))∈biTable/\(q.1==("__debug__" : Str))=false/\q.2≠.seq:=fun q h=>⟨(tyTab_ok' q h).1,(tyTab_ok' q h).2.1,fun e=>by have:=(tyTab_ok' q h).2.2;rw [e] at this;cases this⟩
theorem listRange_call (F:FixOk f) {g h:Str} {gp pos hp pos':Pos} {e:Expr} {a:PE×Cl} (hg:f.t.bi g "list" = true) (hdg:(g==("__debug__" : Str))=false) (hh:f.t.bi h "range" = true) (hdh:(h==("__debug__" : Str))=false) (hse:starred e=false)
  (ha:EvOK f cf e a.1 a.2):EvOK f cf (.Call (.Name g gp) [.Call (.Name h hp) [e] [] pos'] [] pos) (.prim .listRange [a.1]) .fresh:=by
 intro own ρ s x hn
 obtain ⟨rfl,hg⟩:=bi_eq hg
 obtain ⟨rfl,hh⟩:=bi_eq hh
 simp only [TC.bi,Bool.and_eq_true,Option.isNone_iff_eq_none] at hg hh
 rw [ev_prim1] at hn ⊢
 refine wpAny_Call_NameR (wpAny_Name (loadBi F x hg.1.1 hg.1.2 (v:=.type "list") (by decide +kernel) ?_) hdg)
 refine PySem.callWith_type (by rfl) (zG (by rfl) (by simp) ?_)
 refine wpAny_items_cons ?_ (zD (by rfl))
 refine wpAny_Call_NameR (wpAny_Name (loadBi F x hh.1.1 hh.1.2 (v:=.type "range") (by decide +kernel) ?_) hdh)
 refine PySem.callWith_type (backTo_plain (by simp [hse])) (zG (by simp [hse]) (by simp) ?_)
 refine wpAny_items_cons ?_ (zD hse)
 refine ha.use F x hn fun d v s₁ e1 e2 hn1 g1 x1 r1=>wpAny_items_nil ?_
 rw [e2]
 show wpAny _ _ (call (.type "range") ([]++[v])) _ _ s₁
 cases d with
 | int i=>
  obtain ⟨t,rfl⟩:=part_int r1
  cases q:prim .listRange [.int i] with
  | stuck=>exact absurd q hn1
  | ok d=>
   refine wpAny_mono (listRange_sound x1 F.ok.handled q (t:=t) (fun _ _=>False)) (fun r s₂ z=>?_) fun _ _ z=>z.elim
   refine wpAny_items_nil (wpAny_mono z (fun v s₃ z=>⟨d,rfl,g1.trans (.of_keeps z.1),z.2.back g1.h⟩) fun _ _ z=>z.elim)
 | _=>exact absurd rfl hn1
theorem isi_call_sound (F:FixOk f) {g:Str} {gp pos:Pos} {x y:Expr} {a:PE×Cl} {ty:Ty} (hg:f.t.bi g "isinstance" = true) (hdg:(g==("__debug__" : Str))=false) (hsx:starred x=false) (hsy:starred y=false) (hy:TyIs f.t y ty)
  (ha:EvOK f cf x a.1 a.2) (hta:a.2.top=true):EvOK f cf (.Call (.Name g gp) [x,y] [] pos) (.prim (.isi ty) [a.1]) .safe:=by
 intro own ρ s st hn
 obtain ⟨rfl,hg⟩:=bi_eq hg
 simp only [TC.bi,Bool.and_eq_true,Option.isNone_iff_eq_none] at hg
 rw [ev_prim1] at hn ⊢
 refine wpAny_Call_NameR (wpAny_Name (loadBi F st hg.1.1 hg.1.2 (v:=.builtin "isinstance") (by decide +kernel) ?_) hdg)
 refine Calls.callWith_builtin (backTo_plain (by simp only [List.any_cons,hsx,hsy,List.any_nil,Bool.false_or,Bool.or_false])) (zG (by simp only [List.any_cons,hsx,hsy,List.any_nil,Bool.false_or,Bool.or_false]) (by simp) ?_)
 refine wpAny_items_cons ?_ (zD hsx)
 refine ha.use F st hn fun d v s₁ e1 e2 hn1 g1 x1 r1=>?_
 rw [e2]
 refine wpAny_items_cons ?_ (zD hsy)
 cases hy with
 | name hT htab=>
  have htab:=mem_of_lookup htab
  have hk:=tyTab_ok _ htab
  simp only [TC.bi,Bool.and_eq_true,Option.isNone_iff_eq_none] at hT
  refine wpAny_Name (loadBi F x1 hT.1.1 hT.1.2 hk.1 (wpAny_items_nil ?_)) hk.2.1
  cases q:isi1 ty d with
  | stuck=>exact absurd q hn1
  | ok x=>
   refine wpAny_mono (isi_sound hk.2.2 (r1.tp st hta) q (fun _ _=>False)) (fun v s₂ z=>?_) fun _ _ z=>z.elim
   obtain ⟨z1,b,rfl,rfl⟩:=z
   exact ⟨_,q,g1.trans (.of_keeps z1),rfl⟩
 | seq hX hY=>
  obtain ⟨rfl,hX⟩:=bi_eq hX
  obtain ⟨rfl,hY⟩:=bi_eq hY
  simp only [TC.bi,Bool.and_eq_true,Option.isNone_iff_eq_none] at hX hY
  refine wpAny_Tuple (wpAny_items_cons (wpAny_Name (loadBi F x1 hX.1.1 hX.1.2 (v:=.type "tuple") (by decide +kernel) ?_) (by decide +kernel)) rfl)
  refine wpAny_items_cons (wpAny_Name (loadBi F x1 hY.1.1 hY.1.2 (v:=.type "list") (by decide +kernel) (wpAny_items_nil ⟨by show 2<=sizeLine;decide,wpAny_items_nil ?_⟩)) (by decide +kernel)) rfl
  have gp:Grow f.c.A s₁ { s₁ with heap:=s₁.heap.push { cls:=.type "tuple",data:=.seq #[.type "tuple",.type "list"] } }:=Grow.push _ _ _
  cases q:isi1 .seq d with
  | stuck=>exact absurd q hn1
  | ok x=>
   refine wpAny_mono (isi_seq (Heap.get?_push_size _ rfl) ((r1.tp st hta).grow x1 gp) q (fun _ _=>False)) (fun v s₂ z=>?_) fun _ _ z=>z.elim
   obtain ⟨z1,b,rfl,rfl⟩:=z
   exact ⟨_,q,(g1.trans gp).trans (.of_keeps z1),rfl⟩
theorem RdCs.len {c:Cx} {h₀ h:Heap}:∀ {ks:List Cl} {ds:List PV} {vs:List Value},RdCs c own h₀ h ks ds vs->ds.length=ks.length
 | [],_,_,r=>by rw [r.1];rfl
 | _::_,_,_,r=>r.cons (M:=fun ds _=>ds.length=_) fun _ _ _ _ _ b=>congrArg (·+1) (RdCs.len b)
theorem call_tail (F:FixOk f) (C:CF f.B f.fa f.t.G cf f.D) {g:Str} {i ar:Nat} {fr clean:Bool} (hl:FnOf f.t.G g i ar fr) {s₁:Shared} (x:St f.c own ρ s) (g1:Grow f.c.A s s₁) {ks:List Cl} {ds:List PV} {vs:List Value} (r:RdCs f.c own s.heap s₁.heap ks ds vs) (hlen:ks.length=ar) (hk:if clean then fr=true else ks.all Cl.inner=true)
  {R:Res PV} (hR:R=(cf i ds).bind fun d=>if !clean||d.clean then .ok d else .stuck) (hn:R≠.stuck):
  wpAny (model prog w) f.c.A (call (.ref (f.fa i)) vs) (VP f own s (if fr then .fresh else .safe) R) (fun _ _=>False) s₁:=by
 have x1:=x.grow F.ok g1
 subst hR
 have hn2:cf i ds≠.stuck:=fun q=>hn (by rw [q];rfl)
 have hdl:ds.length=ar:=r.len.trans hlen
 cases clean with
 | false=>
  simp only [Bool.false_eq_true,if_false] at hk
  have hr:=r.rds x hk
  refine wpAny_call (codeAny_mono (C.v f.c.A s₁ g i ar fr ds vs (Fz f.c own) hl hdl (x1.here F) (fun a ha hf=>fz_dum hf (x1.fr a ha).1) hr hn2) fun res s₂ z=>?_)
  cases res with
  | error x'=>exact z.elim
  | ok fl=>
   cases fl with
   | ret v=>
    obtain ⟨d,e2,g2,rr⟩:=z
    refine ⟨d,by rw [e2];rfl,g1.trans g2,?_⟩
    unfold RetRd at rr
    cases fr with
    | false=>exact Rd.imp (fun a _ _ _ q=>q.elim id fun q=>x1.newFz q) d rr
    | true=>exact RdC.back g1.h (RdO.imp (fun a _ _ _ q=>q) (fun a _ _ _ q=>⟨q.1.elim id fun q=>x1.newFz q,q.2⟩) rr:RdC f.c own s₁.heap s₂.heap .fresh d v)
   | _=>exact z.elim
 | true=>
  simp only [if_true] at hk
  subst hk
  have hr:=r.anys x
  refine wpAny_call (codeAny_mono (C.v f.c.A s₁ g i ar true ds vs (fun a=>own a≠some dum) hl hdl (x1.here F) (fun a ha hf=>hf (x1.fr a ha).1) (Rds.imp (fun a _ _ _ q=>q.2) ds hr) hn2) fun res s₂ z=>?_)
  cases res with
  | error x'=>exact z.elim
  | ok fl=>
   cases fl with
   | ret v=>
    obtain ⟨d,e2,g2,rr⟩:=z
    rw [e2] at hn
    simp only [ok_bind,Bool.not_true,Bool.false_or] at hn
    split at hn
    ·rename_i hc
     refine ⟨d,by rw [e2];simp [ok_bind,hc],g1.trans g2,?_⟩
     unfold RetRd at rr
     rw [if_pos rfl] at rr
     refine RdC.back g1.h (?_:RdC f.c own s₁.heap s₂.heap .fresh d v)
     cases d with
     | list l'=>obtain ⟨a,us,e3,ho',q1,q2,q3⟩:=rr;exact ⟨a,us,e3,ho',q1,q2,Rds.ofImm l' (by simpa [PV.clean] using hc) q3⟩
     | dict l'=>obtain ⟨a,us,e3,ho',q0,q1,q2,q3⟩:=rr;exact ⟨a,us,e3,ho',q0,q1,q2,RdKV.ofImm l' (by simpa [PV.clean] using hc) q3⟩
     | tuple l'=>exact Rd.ofImm (.tuple l') (by simpa [PV.clean] using hc) rr
     | obj _ _ _ _ _=>cases hc
     | _=>exact rr
    ·exact absurd rfl hn
   | _=>exact z.elim
theorem usercall_sound (F:FixOk f) (C:CF f.B f.fa f.t.G cf f.D) {g:Str} {gp pos:Pos} {es:List Expr} {l:List (PE×Cl)} {i ar:Nat} {fr clean:Bool} (hg:f.t.glob g=true) (hl:f.t.G.lookup g=some (.fn i ar fr)) (hd:(g==("__debug__" : Str))=false)
  (h:EachOK f cf es l) (hs:es.any starred=false) (hne:es≠[]) (hlen:l.length=ar) (hk:if clean then fr=true else (l.map (·.2)).all Cl.inner=true):
  EvOK f cf (.Call (.Name g gp) es [] pos) (.call i clean (l.map (·.1))) (if fr then .fresh else .safe):=by
 intro own ρ s x hn
 dsimp only [vE19] at hn ⊢
 have hn1:evs cf ρ (l.map (·.1))≠.stuck:=fun q=>hn (by rw [q];rfl)
 refine wpAny_Call_NameR (wpAny_Name (loadGl F x hg hl fun v hv=>?_) hd)
 rw [show v=.ref (f.fa i) from hv]
 obtain ⟨o,fd,ho,hfd⟩:=F.gnd.fn g i ar fr hl
 refine Calls.callWith_function (o:=o) (fd:=fd) (zG hs hne ?_)
 refine wpAny_mono (evs_sound F h hs x hn1) (fun vs s₁ q=>?_) fun _ _ q=>q.elim
 obtain ⟨ds,e1,g1,r⟩:=q
 refine ⟨⟨(x.grow F.ok g1).baseB F _ _ ho,hfd⟩,?_⟩
 exact call_tail F C (.inl hl) x g1 r (by rw [List.length_map];exact hlen) hk (by rw [e1];rfl) hn
end
end Mine.Internal
end
section
namespace Mine.Internal
open PySem PySem.Spec PyProof.Rows
section
variable {f:Fix} {cf:Nat->List PV->Res PV} {own:Addr->Option Nat} {ρ:Slots} {s:Shared} {e:Expr} {p:PE} {k:Cl}
noncomputable def eqI (i:Int):Value->Bool
 | .int j _=>j==i
 | _=>false
theorem ints_at {P:Addr->Prop} {h:Heap} {l:List PV} {is:List Int} {vs:List Value} (e:PV.ints? l=some is) (r:Rds h P l vs):vs.length=is.length/\∀ (i:Nat) (v:Value),vs[i]?=some v->∃ n t,is[i]?=some n/\v=Value.int n t:=by
 have q:=ints_are e r
 clear e r
 induction q with
 | nil=>exact ⟨rfl,fun i v h=>by cases h⟩
 | cons n t _ ih=>
  refine ⟨congrArg (·+1) ih.1,fun i v h=>?_⟩
  cases i with
  | zero=>cases h;exact ⟨n,t,rfl,rfl⟩
  | succ i=>exact ih.2 i v h
theorem indexIn_ok {l:List PV} {d':PV} (hn:indexIn l d'≠.stuck):∃ is i kk,PV.ints? l=some is/\d'=.int i/\is.idxOf? i=some kk/\indexIn l d'=.ok (.int (kk:Nat)):=by
 cases q:PV.ints? l with
 | none=>exact absurd (by unfold indexIn;rw [q]) hn
 | some is=>
  cases d' with
  | int i=>
   have e:indexIn l (.int i)=(match is.idxOf? i with | some k=>Res.ok (PV.int k) | Option.none=>.stuck):=by unfold indexIn;rw [q]<;>rfl
   cases q2:is.idxOf? i with
   | none=>rw [e,q2] at hn;exact absurd rfl hn
   | some kk=>exact ⟨is,i,kk,rfl,rfl,q2,by rw [e,q2]⟩
  | _=>exact absurd (by unfold indexIn;rw [q]) hn
theorem idxOf_first {l:List Int} {i:Int} {k:Nat} (h:l.idxOf? i=some k):l[k]?=some i/\∀ m,m < k->l[m]?≠some i:=by
 rw [List.idxOf?,List.findIdx?_eq_some_iff_getElem] at h
 obtain ⟨hk,h1,h2⟩:=h
 refine ⟨by rw [List.getElem?_eq_getElem hk,eq_of_beq h1],fun m hm q=>?_⟩
 have:=h2 m hm
 rw [List.getElem?_eq_getElem (by exact o312 hk hm)] at q
 injection q with q
 rw [q] at this
 simp at this
theorem idx_facts {P:Addr->Prop} {h:Heap} {l:List PV} {is:List Int} {i:Int} {t:Tok} {kk:Nat} {vs:Array Value} (his:PV.ints? l=some is) (hk:is.idxOf? i=some kk) (hr:Rds h P l vs.toList):
  ∃ hkl:kk < vs.size,(∀ y,y∈vs->MeetsSeq.EqGives y (.int i t) (eqI i y))/\eqI i vs[kk]=true/\∀ m (hm:m < vs.size),m < kk->eqI i vs[m]=false:=by
 obtain ⟨h1,h2⟩:=ints_at his hr
 obtain ⟨q1,q2⟩:=idxOf_first hk
 have hkl:kk < vs.size:=by
  have:=(List.getElem?_eq_some_iff.mp q1).1
  rw [<-Array.length_toList,h1];exact this
 have at':∀ m (hm:m < vs.size),∃ n t,is[m]?=some n/\vs[m]=.int n t:=fun m hm=>h2 m _ (by rw [Array.getElem?_toList];exact Array.getElem?_eq_getElem hm)
 refine ⟨hkl,fun y hy=>?_,?_,fun m hm hmk=>?_⟩
 ·obtain ⟨m,hm,rfl⟩:=Array.mem_iff_getElem.mp hy
  obtain ⟨j,u,_,hju⟩:=at' m hm
  rw [hju]
  exact MeetsSeq.EqGives.int j i u t
 ·obtain ⟨j,u,hj,hju⟩:=at' kk hkl
  rw [hju]
  rw [q1] at hj;injection hj with hj
  show (j==i)=true
  rw [hj];exact beq_self_eq_true _
 ·obtain ⟨j,u,hj,hju⟩:=at' m hm
  rw [hju]
  have:=q2 m hmk
  rw [hj] at this
  show (j==i)=false
  rw [beq_eq_false_iff_ne];exact fun z=>this (by rw [z])
inductive PB:Expr->Prop where
 | name {x:Str} {p:Pos}:PB (.Name x p)
 | attr {e:Expr} {x:Str} {p:Pos}:PB (.Attribute e x p)
 | call {g:Str} {gp p:Pos} {a:Expr} {as:List Expr} {ks:List Keyword}:PB (.Call (.Name g gp) (a::as) ks p)
theorem plain_base {o:Expr} (h:PB o) (nm:Str) (env:Env) (w:Sem Value):attributeBase o nm env w=w:=by cases h<;>rfl
theorem index_sound (F:FixOk f) {o e:Expr} {apos pos:Pos} {a b:PE×Cl} (hb0:PB o) (ha:EvOK f cf o a.1 a.2) (hb:EvOK f cf e b.1 b.2) (hse:starred e=false) (hline:(apos.endLine==pos.line)=true) (hta:a.2.top=true) (htb:b.2.top=true):
  EvOK f cf (.Call (.Attribute o "index" apos) [e] [] pos) (.index a.1 b.1) .safe:=by
 intro own ρ s st hn
 rw [vE21] at hn ⊢
 have hst:backTo pos (starEach [e] f.c.env)=[(false,eval e f.c.env)]:=by rw [show starEach [e] f.c.env=[(false,eval e f.c.env)] from zD hse];rfl
 refine wpAny_Call_method1_late (plain_base hb0 _ _ _) hline hst ?_
 refine ha.use F st hn fun d v s₁ e1 e2 hn1 g1 x1 r1=>?_
 rw [e2]
 have no:∀ d:PV,(∀ y,index1 d y=.stuck)->(ev cf ρ b.1).bind (fun y=>index1 d y)=.stuck:=fun d hd=>by
  cases ev cf ρ b.1 with
  | stuck=>rfl
  | ok y=>exact hd y
 cases d with
 | list l=>
  obtain ⟨ad,vs,rfl,ho,⟨n,hl⟩,hlen,hr⟩:=r1.tp st hta
  refine ⟨"list","list.index",PySem.F.plainAttrs_list,PySem.F.slot_list_index,PySem.F.type_list_index,⟨_,hl,rfl⟩,fun a' q=>by injection q with q;subst q;exact ⟨_,hl,rfl⟩,?_⟩
  refine P.index_list (hb.use F x1 hn1 fun d' v' s₂ e3 e4 hn2 g2 x2 r2=>?_)
  rw [e4]
  obtain ⟨ad',vs',hq,ho',⟨n',hl'⟩,hlen',hr'⟩:=(r1.tp st hta).grow x1 g2
  injection hq with hq;subst hq
  obtain ⟨is,i,kk,his,rfl,hk,hix⟩:=indexIn_ok (show indexIn l d'≠.stuck from hn2)
  obtain ⟨t,rfl⟩:=part_int r2
  obtain ⟨hkl,q1,q2,q3⟩:=idx_facts (t:=t) his hk hr'
  refine ⟨vs',n',eqI i,kk,hkl,hl',q1,?_,q2,q3,_,hix,(g1.trans g2).trans (Grow.tok _ _),_,rfl⟩
  exact big63' hkl (by rw [lenOf hr'];exact hlen')
 | _=>exact absurd (no _ fun _=>rfl) hn1
end
end Mine.Internal
end
section
namespace Mine.Internal
open PySem PySem.Spec PyProof.Rows
noncomputable def fieldTab:List (Str×Nat):=[("things",0),("turns",1),("kind",2),("fresh",3),("left",4)]
set_option maxRecDepth 100000 in
theorem arc_st:(fieldTab.map (·.1)).all arcRec.statics.contains=true:=by kernel_rfl
theorem no_things:typeLookup (.type "object") ("things" : Str)=pure none:=by rw [typeLookup_type,builtinLookup_eq_fast];kernel_rfl
theorem no_turns:typeLookup (.type "object") ("turns" : Str)=pure none:=by rw [typeLookup_type,builtinLookup_eq_fast];kernel_rfl
theorem no_kind:typeLookup (.type "object") ("kind" : Str)=pure none:=by rw [typeLookup_type,builtinLookup_eq_fast];kernel_rfl
theorem no_fresh:typeLookup (.type "object") ("fresh" : Str)=pure none:=by rw [typeLookup_type,builtinLookup_eq_fast];kernel_rfl
theorem no_left:typeLookup (.type "object") ("left" : Str)=pure none:=by rw [typeLookup_type,builtinLookup_eq_fast];kernel_rfl
theorem no_face:typeLookup (.type "object") ("face" : Str)=pure none:=by rw [typeLookup_type,builtinLookup_eq_fast];kernel_rfl
theorem no_leads:typeLookup (.type "object") ("leads" : Str)=pure none:=by rw [typeLookup_type,builtinLookup_eq_fast];kernel_rfl
theorem no_drawing:typeLookup (.type "object") ("drawing" : Str)=pure none:=by rw [typeLookup_type,builtinLookup_eq_fast];kernel_rfl
theorem no_field {x:Str} {k:Nat} (h:(x,k)∈fieldTab):typeLookup (.type "object") x=pure none:=by
 simp only [fieldTab,List.mem_cons,List.not_mem_nil,or_false,Prod.mk.injEq] at h
 rcases h with ⟨rfl,_⟩ | ⟨rfl,_⟩ | ⟨rfl,_⟩ | ⟨rfl,_⟩ | ⟨rfl,_⟩
 ·exact no_things
 ·exact no_turns
 ·exact no_kind
 ·exact no_fresh
 ·exact no_left
theorem no_meth {x:Str} {e:GE} (h:(x,e)∈meths):typeLookup (.type "object") x=pure none:=by
 simp only [meths,List.mem_cons,List.not_mem_nil,or_false,Prod.mk.injEq] at h
 rcases h with ⟨rfl,_⟩ | ⟨rfl,_⟩ | ⟨rfl,_⟩
 ·exact no_face
 ·exact no_leads
 ·exact no_drawing
theorem meth_out:∀ q∈meths,q.1∉(["things","turns","kind","fresh","left"]:List Str):=by decide +kernel
section
variable {h:Heap} {C N:Addr} {mN:Str->Option Value}
theorem quiet_field (P:PlainAt h arcRec C N mN) {x:Str} {k:Nat} (hx:(x,k)∈fieldTab):mN x=none:=
 P.quiet x (List.mem_append_right _ (List.contains_iff_mem.mp (List.all_eq_true.mp arc_st x (List.mem_map.2 ⟨_,hx,rfl⟩))))
theorem quiet_set (P:PlainAt h arcRec C N mN):mN "__setattr__" = none:=P.quiet _ (List.mem_append_left _ (.head _))
theorem quiet_get (P:PlainAt h arcRec C N mN):mN "__getattribute__" = none:=P.quiet _ (List.mem_append_left _ (.tail _ (.head _)))
theorem quiet_gat (P:PlainAt h arcRec C N mN):mN "__getattr__" = none:=P.quiet _ (List.mem_append_left _ (.tail _ (.tail _ (.head _))))
theorem ns_apart {x dx:Addr} {m:Str->Option Value} (hx:∃ o,h.get? x=some o/\o.cls=.ref CA/\o.dict=some dx/\o.data=.plain) (ns:h.Ns1 dx m):dx≠x:=fun e=>by
 obtain ⟨o,ho,_,_,hd⟩:=hx
 obtain ⟨o',_,_,ho',hd',_⟩:=ns
 rw [e,ho] at ho';cases ho';rw [hd] at hd';cases hd'
theorem inst_of {x dx:Addr} {m:Str->Option Value} (hx:∃ o,h.get? x=some o/\o.cls=.ref CA/\o.dict=some dx/\o.data=.plain) (ns:h.Ns1 dx m):h.Inst x CA m:=by
 have ne:=ns_apart hx ns
 obtain ⟨o,ho,hc,hd,hp⟩:=hx
 exact ⟨o,ho,hc,fun c q=>(by rw [hp] at q;cases q),.inr ⟨dx,hd,ne,ns⟩⟩
end
section
variable {s:Shared} {A:Around} {N:Addr} {mN m:Str->Option Value} {x:Addr}
theorem load_at (P:PlainAt s.heap arcRec CA N mN) (I:s.heap.Inst x CA m) {nm:Str} {k:Nat} (hx:(nm,k)∈fieldTab) {v:Value} (hv:m nm=some v) (hh:handedOut v=pure v) {b:Bool} {Q E:Value->Shared->Prop} (hq:Q v { s with toks:=s.toks+1 }):
  wpAny (model prog w) A (getAttr (.ref x) nm b) Q E s:=by
 obtain ⟨hp,g,d,t,os⟩:=s
 obtain ⟨nm',q,bs,sn,sub,col,dd,k0,k1,k2,k3,k5,hC⟩:=P.cls.obj
 exact load_attr hC P.cls.ns (quiet_get P) (quiet_field P hx) (no_field hx) I hv hh hq
theorem meth_at (P:PlainAt s.heap arcRec CA N mN) (I:s.heap.Inst x CA m) {nm:Str} {fa:Addr} {o:Obj} (hf:mN nm=some (.ref fa)) (ho:s.heap.get? fa=some o) (hc:o.cls=.type "function") (hB:typeLookup (.type "object") nm=pure none) (hm:m nm=none) {pl:Sem Bool} {Q:Value×List Value->Shared->Prop} {E:Value->Shared->Prop} (hq:Q (.ref fa,[.ref x]) s):
  wpAny (model prog w) A (getMethod (.ref x) nm pl) Q E s:=by
 obtain ⟨hp,g,d,t,os⟩:=s
 obtain ⟨nm',q,bs,sn,sub,col,dd,k0,k1,k2,k3,k5,hC⟩:=P.cls.obj
 exact method_of hC P.cls.ns (quiet_get P) (quiet_gat P) hf ho hc hB I hm hq
end
theorem methCall {A:Around} {E:Value->Shared->Prop} {s:Shared} {env:Env} {o:Expr} {name:Str} {apos pos:Pos} {args:List Expr} {Q:Value->Shared->Prop} (hb:PB o) (hs:args.any starred=false) (hl:args.length < 30) (hline:(apos.endLine==pos.line)=true)
  (h:wpAny (model prog w) A (eval o env) (fun ov s₁=>∀ pl,wpAny (model prog w) A (getMethod ov name pl) (fun fx s₂=>wpAny (model prog w) A (callWith pos fx.1 fx.2 (backTo pos (starEach args env)) []) Q E s₂) E s₁) E s):
  wpAny (model prog w) A (eval (.Call (.Attribute o name apos) args [] pos) env) Q E s:=by
 rw [arm_eval_Call,plain_base hb]
 refine wpAny_bind (wpAny_mono h (fun ov s₁ h₁=>?_) fun _ _ e=>e)
 refine wpAny_bind (wpAny_standAt ?_)
 have hform:methodCallForm (args.length+([]:List Keyword).length) (backTo pos (starEach args env)) (backToKw pos (keywordEach [] env))=true:=by
  have h1:(backTo pos (starEach args env)).all (fun x=>!x.1)=true:=by
   have:=backTo_plain (env:=env) (pos:=pos) hs
   rw [List.all_eq_not_any_not]
   simpa using this
  show ((backTo pos (starEach args env)).all (fun x=>!x.1)&&true&&decide (args.length+0+0 < 30))=true
  rw [h1,decide_eq_true (show args.length+0+0 < 30 from hl)];rfl
 have hpos:methodCallPos true o env apos pos=pure pos:=by unfold methodCallPos;simp [hline]
 unfold methodCall
 rw [hform]
 refine wpAny_bind (wpAny_holding (wpAny_mono (h₁ _) (fun fx s₂ h₂=>?_) fun _ _ e=>e))
 exact wpAny_bind (wpAny_of_eq hpos h₂)
section
variable {f:Fix} {cf:Nat->List PV->Res PV} {own:Addr->Option Nat} {ρ:Slots} {s:Shared} {e:Expr} {p:PE} {k:Cl}
theorem attr_sound (F:FixOk f) {x nm:Str} {xp pos:Pos} {j:Nat} {a:PE×Cl} (ha:EvOK f cf (.Name x xp) a.1 a.2) (hin:a.2.inner=true) (hf:fieldTab.lookup nm=some j):EvOK f cf (.Attribute (.Name x xp) nm pos) (.attr a.1 j) .safe:=by
 intro own ρ s st hn
 rw [vE28] at hn ⊢
 refine Attribute_any_ (ha.use F st hn fun d v s₁ e1 e2 hn1 g1 x1 r1=>?_) rfl
 rw [e2]
 have r:=r1.rd st hin
 cases d with
 | obj th tu kd fr lf=>
  obtain ⟨xa,dx,la,t,m,vs,us,rfl,ox,od,oa,ot,hx,ns,am,sk,ne,im,q,ln,rr,n1,lt,dq,dr⟩:=r
  obtain ⟨N,mN,arc⟩:=F.gnd.arc
  have P:=arc.at_.keeps (x1.baseB F)
  have hm:=mem_of_lookup hf
  have g2:Grow f.c.A s { s₁ with toks:=s₁.toks+1 }:=g1.trans (Grow.tok _ _)
  simp only [fieldTab,List.mem_cons,List.not_mem_nil,or_false,Prod.mk.injEq] at hm
  rcases hm with ⟨rfl,rfl⟩ | ⟨rfl,rfl⟩ | ⟨rfl,rfl⟩ | ⟨rfl,rfl⟩ | ⟨rfl,rfl⟩
  ·exact load_at P (inst_of hx ns) (mem_of_lookup hf) am.th rfl ⟨_,rfl,g2,la,vs,rfl,oa,q,ln,rr⟩
  ·exact load_at P (inst_of hx ns) (mem_of_lookup hf) am.tu rfl ⟨_,rfl,g2,t,us,rfl,ot,n1,lt,dq,dr⟩
  ·obtain ⟨_,hv⟩:=am.kd;exact load_at P (inst_of hx ns) (mem_of_lookup hf) hv rfl ⟨_,rfl,g2,sk,_,rfl⟩
  ·obtain ⟨_,hv⟩:=am.fr;exact load_at P (inst_of hx ns) (mem_of_lookup hf) hv rfl ⟨_,rfl,g2,_,rfl⟩
  ·obtain ⟨_,hv⟩:=am.lf;exact load_at P (inst_of hx ns) (mem_of_lookup hf) hv rfl ⟨_,rfl,g2,_,rfl⟩
 | _=>exact absurd rfl hn1
theorem isObj {d:PV} (h:notObj d=true->False):∃ th tu kd fr lf,d=.obj th tu kd fr lf:=by
 cases d with
 | obj th tu kd fr lf=>exact ⟨_,_,_,_,_,rfl⟩
 | _=>exact (h rfl).elim
theorem meth_sound (F:FixOk f) (C:CF f.B f.fa f.t.G cf f.D) {o:Expr} {m:Str} {apos pos:Pos} {a:PE×Cl} {i:Nat} {fr clean:Bool} (hb:PB o) (ha:EvOK f cf o a.1 a.2) (hm:meths.lookup m=some (.fn i 1 fr)) (hline:(apos.endLine==pos.line)=true) (hk:if clean then fr=true else a.2.inner=true):
  EvOK f cf (.Call (.Attribute o m apos) [] [] pos) (.call i clean [a.1]) (if fr then .fresh else .safe):=by
 intro own ρ s st hn
 have e0:ev cf ρ (.call i clean [a.1])=(ev cf ρ a.1).bind fun d=>(cf i [d]).bind fun d=>if !clean||d.clean then .ok d else .stuck:=by
  rw [vE19,evsC,evsN];cases ev cf ρ a.1<;>rfl
 rw [e0] at hn ⊢
 refine methCall hb rfl (by decide) hline (ha.use F st hn fun d v s₁ e1 e2 hn1 g1 x1 r1 pl=>?_)
 rw [e2]
 obtain ⟨th,tu,kd,ff,lf,rfl⟩:=isObj (d:=d) fun h=>hn1 (by rw [C.o m i 1 fr hm d h];rfl)
 obtain ⟨xa,dx,la,t,mm,vs,us,rfl,ox,od,oa,ot,hx,ns,am,_⟩:=r1.any st
 obtain ⟨N,mN,arc⟩:=F.gnd.arc
 have P:=arc.at_.keeps (x1.baseB F)
 obtain ⟨hf,o,fd,ho,hc,hd⟩:=arc.fn m i 1 fr hm
 have hmm:=mem_of_lookup hm
 refine meth_at P (inst_of hx ns) hf (x1.baseB F _ _ ho) hc (no_meth hmm) (am.no _ (meth_out _ hmm)) ?_
 refine callWith_meth0 hd (x1.baseB F _ _ ho) ?_
 refine call_tail F C (.inr hm) st g1 (ks:=[a.2]) ⟨_,[],_,[],rfl,rfl,r1,rfl,rfl⟩ rfl ?_ rfl hn1
 cases clean with
 | true=>exact hk
 | false=>simp only [Bool.false_eq_true,if_false,List.all_cons,List.all_nil,Bool.and_true] at hk ⊢;exact hk
end
end Mine.Internal
end
section
namespace Mine.Internal
open PySem PySem.Spec PyProof.Rows
open AutoSeq1 (wpAny_loadPart')
section
variable {A:Around} {E:Value->Shared->Prop} {s:Shared}
theorem nextOf_tuple_item {it t:Addr} {i:Nat} {items:Array Value} {x:Value} {Q:Value->Shared->Prop} (hit:s.heap.IsTupleIter it t i) (ht:s.heap.IsTuple t items) (hx:items[i]?=some x)
  (hQ:∀ h',h'.IsTupleIter it t (i+1)->Heap.SameBut it s.heap h'->Q x { s with heap:=h' }):wpAny (model prog w) A (Builtin.SmallTypes.nextOf (.ref it)) Q E s:=by
 obtain ⟨o,ho,hc,hd⟩:=id hit
 obtain ⟨ol,hol,_,nl,hdl⟩:=ht
 have hT:s.TypeIs (.ref it) "tuple_iterator" := ⟨o,ho,hc⟩
 unfold Builtin.SmallTypes.nextOf
 refine wpAny_bind (wpAny_callSpecial?_slot (name:=Str.ofString "__next__") hT F.slot_tuple_iterator_next
  (wpAny_call_entry F.slot_tuple_iterator_next hT F.entry_tuple_iterator_next ?_ (F.args_tuple_iterator_next_1 _)))
 show wpAny _ _ (field (.ref it) 0 >>= _) _ _ s
 refine wpAny_bind (wpAny_field ho hd (x:=.ref t) rfl ?_)
 show wpAny _ _ (if (Value.ref t==Value.none)=true then _ else _) _ _ s
 rw [if_neg (show ¬ ((Value.ref t==Value.none)=true) from Bool.false_ne_true)]
 show wpAny _ _ (field (.ref it) 1 >>= _) _ _ s
 refine wpAny_bind (wpAny_field ho hd (x:=.int i 0) rfl ?_)
 show wpAny _ _ (seqItems? (.ref t) >>= _) _ _ s
 refine wpAny_bind (wpAny_seqItems hol hdl ?_)
 simp only [Int.toNat_natCast,hx]
 refine wpAny_bind (wpAny_setField ho hd (by simp) (wpAny_pure ⟨x,rfl,wpAny_pure (hQ _ ⟨_,Heap.get?_update_self _ ho (Obj.isFreed_of_fields (Obj.data_mapFields hd _)),(Obj.cls_mapFields ..).trans hc,?_⟩ (Heap.SameBut.update ..))⟩))
 rw [Obj.data_mapFields hd];simp [rawInt]
theorem nextOf_tuple_end {it t:Addr} {i:Nat} {items:Array Value} {Q:Value->Shared->Prop} (hh:A.handled=none) (hit:s.heap.IsTupleIter it t i) (ht:s.heap.IsTuple t items) (hx:items[i]?=none)
  (hE:∀ h' e,Heap.ExtBut it s.heap h'->(∃ o,h'.get? e=some o/\o.cls=.type "StopIteration")->E (.ref e) { s with heap:=h' }):wpAny (model prog w) A (Builtin.SmallTypes.nextOf (.ref it)) Q E s:=by
 obtain ⟨o,ho,hc,hd⟩:=id hit
 obtain ⟨ol,hol,_,nl,hdl⟩:=ht
 have hT:s.TypeIs (.ref it) "tuple_iterator" := ⟨o,ho,hc⟩
 unfold Builtin.SmallTypes.nextOf
 refine wpAny_bind (wpAny_callSpecial?_slot (name:=Str.ofString "__next__") hT F.slot_tuple_iterator_next
  (wpAny_call_entry F.slot_tuple_iterator_next hT F.entry_tuple_iterator_next ?_ (F.args_tuple_iterator_next_1 _)))
 show wpAny _ _ (field (.ref it) 0 >>= _) _ _ s
 refine wpAny_bind (wpAny_field ho hd (x:=.ref t) rfl ?_)
 show wpAny _ _ (if (Value.ref t==Value.none)=true then _ else _) _ _ s
 rw [if_neg (show ¬ ((Value.ref t==Value.none)=true) from Bool.false_ne_true)]
 show wpAny _ _ (field (.ref it) 1 >>= _) _ _ s
 refine wpAny_bind (wpAny_field ho hd (x:=.int i 0) rfl ?_)
 show wpAny _ _ (seqItems? (.ref t) >>= _) _ _ s
 refine wpAny_bind (wpAny_seqItems hol hdl ?_)
 simp only [Int.toNat_natCast,hx]
 refine wpAny_bind (wpAny_rule (wpAny_bind (wpAny_setField ho hd (by simp) (wpAny_bind ?_))))
 unfold newExc newTuple
 refine wpAny_bind (wpAny_newObj_type ?_ (by size_fits))
 refine wpAny_bind (m:=firstArgMember _ _) (wpAny_of_eq (a:=Value.none) rfl ?_)
 exact wpAny_newObj_type (wpAny_raiseNew_none hh (hE _ _ (((Heap.SameBut.update ..).extBut.push _).push _) ⟨_,Heap.get?_push_size _ rfl,rfl⟩)) (by size_fits)
theorem drawsTuple (hh:A.handled=none) (it l:Addr) (hne:l≠it) (items:Array Value):
  Draws prog w A it [it,l] items.size (fun i v=>items[i]?=some v) (fun i h=>h.IsTupleIter it l i/\h.IsTuple l items) where
 live:=fun _ _ st=>let ⟨o,ho,_⟩:=st.1;⟨o,ho⟩
 frame:=fun _ _ _ st hk=>⟨st.1.at fun o e=>hk it (by simp) o e,st.2.at fun o e=>hk l (by simp) o e⟩
 item:=fun i s Q E hi st hQ=>by
  refine nextOf_tuple_item st.1 st.2 (x:=items[i]) (by simp [hi]) fun h' hit' hs'=>?_
  refine hQ _ h' s.toks (by simp [hi]) ⟨hit',st.2.at fun o e=>?_⟩ hs'
  exact hs'.extBut l o hne e
 done:=fun s Q E st hE=>nextOf_tuple_end hh st.1 st.2 (by simp) hE
theorem pure_any {α:Type} {M:Model} {a:α} {Q:α->Shared->Prop} (h:∀ b,Q b s):wpAny M A (pure a) Q E s:=wpAny_pure (h a)
set_option maxRecDepth 100000 in
theorem meets_enumerate_tuple (l:Addr) (items:Array Value) (n:Nat) (dct:Option Addr) (sl:Array (Option Value)):
  Meets (Builtin.«enumerate.__new__» ⟨[.type "enumerate",.ref l],[]⟩) (fun _ R s=>s.heap.get? l=some { cls:=.type "tuple",dict:=dct,data:=.seq items n,slots:=sl } /\
   R (.ok (.ret (.ref (s.heap.push { cls:=.type "tuple_iterator",data:=.fields #[.ref l,.int 0 0] }).objs.size)))
    { s with heap:=(s.heap.push { cls:=.type "tuple_iterator",data:=.fields #[.ref l,.int 0 0] }).push { cls:=.type "enumerate",data:=.fields #[.none,.bool false,.ref s.heap.objs.size,rawInt 0,.none,.none] } }):=
 .of_wp fun prog w A R s h=>by
  obtain ⟨hp,g,d,tk,os⟩:=s;obtain ⟨hl,h⟩:=h
  have hsub:=sub_enumerate
  have hL:Heap.IsTuple (Shared.heap ⟨hp,g,d,tk,os⟩) l items:=⟨_,hl,rfl,n,rfl⟩
  wp_walk using wpAny_loadPart' hl
  refine wpAny_stack_any fun st=>pure_any (α:=Bool) fun b=>?_
  cases b<;>(wp_walk using wpAny_loadPart' hl,wpAny_pyIter_tuple hL;exact ⟨_,rfl,h⟩)
theorem call_enumerate_tuple {l:Addr} {items:Array Value} {n:Nat} {Q:Value->Shared->Prop} (hl:s.heap.get? l=some { cls:=.type "tuple",dict:=none,data:=.seq items n,slots:=#[] })
  (h:∀ h',IsEnum h' (s.heap.objs.size+1) s.heap.objs.size 0 .none->h'.IsTupleIter s.heap.objs.size l 0->h'.objs.size=s.heap.objs.size+2 ->
   (∀ b o,s.heap.get? b=some o->h'.get? b=some o)->Q (.ref (s.heap.objs.size+1)) { s with heap:=h' }):
  wpAny (model prog w) A (call (.type "enumerate") [.ref l]) Q E s:=by
 refine callType_new F.called_enumerate (by decide) (F.typeCall_enumerate_1 _) (F.newCall_enumerate_1 _) (fun obj=>F.args_object_init_2 obj _) F.entry_enumerate_new
  (meets_enumerate_tuple l items n none #[]) ⟨hl,?_⟩
 have hz:(s.heap.push { cls:=.type "tuple_iterator",data:=.fields #[.ref l,.int 0 0] }).objs.size=s.heap.objs.size+1:=Heap.size_push ..
 have he:=Heap.get?_push_size (s.heap.push { cls:=.type "tuple_iterator",data:=.fields #[.ref l,.int 0 0] })
   (o:={ cls:=.type "enumerate",data:=.fields #[.none,.bool false,.ref s.heap.objs.size,rawInt 0,.none,.none] }) rfl
 rw [hz] at he
 show _/\_
 rw [hz]
 exact ⟨⟨_,he,rfl⟩,h _ he ⟨_,Heap.get?_push_of_some _ (Heap.get?_push_size _ rfl),rfl,rfl⟩ (by rw [Heap.size_push,hz]) fun b o x=>Heap.get?_push_of_some _ (Heap.get?_push_of_some _ x)⟩
end
end Mine.Internal
end
section
set_option backward.eqns.nonrecursive false
namespace Mine.Internal
open PySem PySem.Spec PyProof.Rows
noncomputable def tgtOk:Expr->Bool
 | .Name .. | .Tuple ..=>true
 | _=>false
structure Itr (A:Around) (P:Addr->Prop) (I:Addr) (tgt:Expr) (fp wr:List Addr) (ds:List PV) (S:Nat->Heap->Prop):Prop where
 sub:∀ b∈wr,b∈fp
 frame:∀ i h h',S i h->(∀ b∈fp,∀ o,h.get? b=some o->h'.get? b=some o)->Kp P h h'->S i h'
 rec_:∀ i h,S i h->∀ b∈wr,∃ o vs,h.get? b=some o/\o.data=.fields vs
 live:∀ i h,S i h->∀ b∈fp,∃ o,h.get? b=some o/\∀ v,o.data≠.cell v
 turn:∀ i (s:Shared) (Q:Value->Shared->Prop) (E:Value->Shared->Prop) d,ds[i]?=some d->S i s.heap ->
  (∀ v h' tk,S (i+1) h'->Rd h' P d v->(∀ b o,b∉wr->s.heap.get? b=some o->h'.get? b=some o)->Q v (up s (h') (tk))) ->
  wpAny (model prog w) A (pyNext (.ref I)) (fun r s₁=>∃ v,r=some v/\wpAny (model prog w) A (letOwnedTupleGo tgt (.ref I) v) (fun _ s₂=>Q v s₂) E s₁) E s
 done:∀ (s:Shared) (Q:Shared->Prop) (E:Value->Shared->Prop),S ds.length s.heap->(∀ h' tk,(∀ b o,b∉wr->s.heap.get? b=some o->h'.get? b=some o)->Q (up s (h') (tk))) ->
  wpAny (model prog w) A (pyNext (.ref I)) (fun r s₁=>r=none/\Q s₁) E s
 self:∀ i (s:Shared) (Q:Value->Shared->Prop) (E:Value->Shared->Prop),S i s.heap->Q (.ref I) s->wpAny (model prog w) A (pyIter (.ref I)) Q E s
section
variable {A:Around} {E:Value->Shared->Prop} {s:Shared} {P:Addr->Prop}
theorem letOwned_plain {M:Model} {tgt:Expr} {I:Addr} {o:Obj} {T:String} {v:Value} {Q:Unit->Shared->Prop} (ht:tgtOk tgt=true) (ho:s.heap.get? I=some o) (hc:o.cls=.type T)
  (hT:(["enumerate","zip","dict_itemiterator","dict_reverseitemiterator","odict_iterator","itertools.zip_longest","itertools.pairwise"]:List String).contains T=false) (h:Q () s):
  wpAny M A (letOwnedTupleGo tgt (.ref I) v) Q E s:=by
 cases tgt with
 | Name _ _=>exact wpAny_pure h
 | Tuple _ _ _=>
  cases v with
  | ref a=>
   show wpAny M A (load I >>= _) Q E s
   refine wpAny_bind (wpAny_load ho ?_)
   obtain ⟨c,d,dt,sl⟩:=o
   simp only at hc
   subst hc
   cases dt with
   | fields vs=>simp only [hT,Bool.false_and,Bool.false_eq_true,if_false];exact wpAny_pure h
   | _=>exact wpAny_pure h
  | _=>exact wpAny_pure h
 | _=>cases ht
theorem rds_get? {h:Heap} {l:List PV} {vs:Array Value} {i:Nat} {d:PV} (r:Rds h P l vs.toList) (e:l[i]?=some d):∃ v,vs[i]?=some v/\Rd h P d v:=by
 obtain ⟨v,h1,h2⟩:=r.get e
 exact ⟨v,by rw [<-Array.getElem?_toList];exact h1,h2⟩
theorem kp_wr {h h':Heap} {wr:List Addr} (hr:∀ b∈wr,∃ o vs,h.get? b=some o/\o.data=.fields vs) (k:∀ b o,b∉wr->h.get? b=some o->h'.get? b=some o):Kp P h h':=fun a o ho hm=>by
 refine k a o (fun hw=>?_) ho
 obtain ⟨o',vs,ho',hd⟩:=hr a hw
 rw [ho] at ho';cases ho'
 rcases hm with ⟨_,_,hd',_⟩ | ⟨_,_,hd',_⟩ | ⟨hd',_⟩<;>(rw [hd] at hd';cases hd')
theorem itr_list (hh:A.handled=none) {tgt:Expr} (ht:tgtOk tgt=true) (I l:Addr) (hne:l≠I) (ds:List PV) (vs:Array Value) (n:Nat):
  Itr A P I tgt [I,l] [I] ds (fun i h=>h.IsListIter I l i/\h.get? l=some { cls:=.type "list",dict:=none,data:=.seq vs n,slots:=#[] }/\Rds h P ds vs.toList) where
 sub:=fun b hb=>by simp at hb;simp [hb]
 frame:=fun i h h' st hk kp=>⟨st.1.at fun o e=>hk I (by simp) o e,hk l (by simp) _ st.2.1,Rds.to kp ds st.2.2⟩
 rec_:=fun i h st b hb=>by
  simp only [List.mem_singleton] at hb;subst hb
  obtain ⟨o,ho,_,hd⟩:=st.1;exact ⟨o,_,ho,hd⟩
 live:=fun i h st b hb=>by
  simp only [List.mem_cons,List.not_mem_nil,or_false] at hb
  rcases hb with rfl | rfl
  ·obtain ⟨o,ho,_,hd⟩:=st.1;exact ⟨o,ho,fun v q=>by rw [hd] at q;cases q⟩
  ·exact ⟨_,st.2.1,fun v q=>by cases q⟩
 turn:=fun i s Q E d hd st hQ=>by
  obtain ⟨v,hv,hr⟩:=rds_get? st.2.2 hd
  refine wpAny_pyNext_list_item st.1 ⟨_,st.2.1,rfl,n,rfl⟩ hv fun h' hit hsb=>⟨v,rfl,?_⟩
  obtain ⟨o,ho,hc,hfd⟩:=hit
  have k:∀ b o,b∉[I]->s.heap.get? b=some o->h'.get? b=some o:=fun b o hb e=>hsb.extBut b o (by simpa using hb) e
  have kp:Kp P s.heap h':=kp_wr (wr:=[I]) (fun b hb=>by simp only [List.mem_singleton] at hb;subst hb;obtain ⟨o,ho,_,hd⟩:=st.1;exact ⟨o,_,ho,hd⟩) k
  exact letOwned_plain ht ho hc (by decide) (hQ v h' s.toks ⟨⟨o,ho,hc,hfd⟩,k l _ (by simpa using hne) st.2.1,Rds.to kp ds st.2.2⟩ (Rd.to kp d hr) k)
 done:=fun s Q E st hQ=>by
  refine wpAny_pyNext_list_end hh st.1 ⟨_,st.2.1,rfl,n,rfl⟩ ?_ fun h' hx=>⟨rfl,hQ h' s.toks fun b o hb e=>hx b o (by simpa using hb) e⟩
  have:=st.2.2.length
  rw [Array.length_toList] at this
  simp [this]
 self:=fun i s Q E st hQ=>wpAny_pyIter_listiter st.1 hQ
theorem itr_tuple (hh:A.handled=none) {tgt:Expr} (ht:tgtOk tgt=true) (I l:Addr) (hne:l≠I) (ds:List PV) (vs:Array Value) (n:Nat):
  Itr A P I tgt [I,l] [I] ds (fun i h=>h.IsTupleIter I l i/\h.get? l=some { cls:=.type "tuple",dict:=none,data:=.seq vs n,slots:=#[] }/\Rds h P ds vs.toList) where
 sub:=fun b hb=>by simp at hb;simp [hb]
 frame:=fun i h h' st hk kp=>⟨st.1.at fun o e=>hk I (by simp) o e,hk l (by simp) _ st.2.1,Rds.to kp ds st.2.2⟩
 rec_:=fun i h st b hb=>by
  simp only [List.mem_singleton] at hb;subst hb
  obtain ⟨o,ho,_,hd⟩:=st.1;exact ⟨o,_,ho,hd⟩
 live:=fun i h st b hb=>by
  simp only [List.mem_cons,List.not_mem_nil,or_false] at hb
  rcases hb with rfl | rfl
  ·obtain ⟨o,ho,_,hd⟩:=st.1;exact ⟨o,ho,fun v q=>by rw [hd] at q;cases q⟩
  ·exact ⟨_,st.2.1,fun v q=>by cases q⟩
 turn:=fun i s Q E d hd st hQ=>by
  obtain ⟨v,hv,hr⟩:=rds_get? st.2.2 hd
  refine wpAny_pyNext_tuple_item st.1 ⟨_,st.2.1,rfl,n,rfl⟩ hv fun h' hit hsb=>⟨v,rfl,?_⟩
  obtain ⟨o,ho,hc,hfd⟩:=hit
  have k:∀ b o,b∉[I]->s.heap.get? b=some o->h'.get? b=some o:=fun b o hb e=>hsb.extBut b o (by simpa using hb) e
  have kp:Kp P s.heap h':=kp_wr (wr:=[I]) (fun b hb=>by simp only [List.mem_singleton] at hb;subst hb;obtain ⟨o,ho,_,hd⟩:=st.1;exact ⟨o,_,ho,hd⟩) k
  exact letOwned_plain ht ho hc (by decide) (hQ v h' s.toks ⟨⟨o,ho,hc,hfd⟩,k l _ (by simpa using hne) st.2.1,Rds.to kp ds st.2.2⟩ (Rd.to kp d hr) k)
 done:=fun s Q E st hQ=>by
  refine wpAny_pyNext_tuple_end hh st.1 ⟨_,st.2.1,rfl,n,rfl⟩ ?_ fun h' hx=>⟨rfl,hQ h' s.toks fun b o hb e=>hx b o (by simpa using hb) e⟩
  have:=st.2.2.length
  rw [Array.length_toList] at this
  simp [this]
 self:=fun i s Q E st hQ=>wpAny_pyIter_tupleiter st.1 hQ
theorem upto_get {a b:Int} {i:Nat} {d:PV} (h:(upto a b)[i]?=some d):i < (b-a).toNat/\d=.int (a+i):=by
 unfold upto at h
 rw [List.getElem?_map] at h
 cases q:(List.range (b-a).toNat)[i]? with
 | none=>rw [q] at h;cases h
 | some j=>
  rw [q] at h
  obtain ⟨h1,h2⟩:=List.getElem?_eq_some_iff.mp q
  simp only [List.getElem_range] at h2
  simp only [List.length_range] at h1
  subst h2
  cases h
  exact ⟨h1,rfl⟩
theorem upto_length (a b:Int):(upto a b).length=(b-a).toNat:=by simp [upto]
theorem itr_range (hh:A.handled=none) {tgt:Expr} (ht:tgtOk tgt=true) (I:Addr) (a b:Int) (hab:a<=b):
  Itr A P I tgt [I] [I] (upto a b) (fun i h=>IsRangeIter h I (a+i) (b-a-i) 1) where
 sub:=fun b hb=>hb
 frame:=fun i h h' st hk kp=>hk I (by simp) _ st
 rec_:=fun i h st b hb=>by
  simp only [List.mem_singleton] at hb;subst hb;exact ⟨_,_,st,rfl⟩
 live:=fun i h st b hb=>by
  simp only [List.mem_singleton] at hb;subst hb;exact ⟨_,st,fun v q=>by cases q⟩
 turn:=fun i s Q E d hd st hQ=>by
  obtain ⟨h1,rfl⟩:=upto_get hd
  refine wpAny_pyNext_range_item st (by exact v27 h1) fun h' hit hsb=>⟨_,rfl,?_⟩
  have e1:a+(i:Int)+1=a+((i+1:Nat):Int):=by exact o315
  have e2:b-a-(i:Int)-1=b-a-((i+1:Nat):Int):=by exact o316
  refine letOwned_plain ht hit rfl (by decide) (hQ _ h' _ (by rw [<-e1,<-e2];exact hit) ⟨_,rfl⟩ fun b o hb e=>hsb.extBut b o (by simpa using hb) e)
 done:=fun s Q E st hQ=>by
  rw [upto_length] at st
  exact wpAny_pyNext_range_end hh st (by exact v28) fun h' hx=>⟨rfl,hQ h' s.toks fun b o hb e=>hx b o (by simpa using hb) e⟩
 self:=fun i s Q E st hQ=>wpAny_pyIter_rangeiter st hQ
theorem itr_keys (hh:A.handled=none) {tgt:Expr} (ht:tgtOk tgt=true) (I l:Addr) (hne:l≠I) (kvs:List (Int×Value)) (ep:Nat):
  Itr A P I tgt [I,l] [I] (kvs.map fun p=>PV.int p.1) (fun i h=>h.IsKeyIter I l i kvs.length ep/\h.DictAt (intKind prog w) l kvs ep) where
 sub:=fun b hb=>by simp at hb;simp [hb]
 frame:=fun i h h' st hk kp=>⟨st.1.at fun o e=>hk I (by simp) o e,st.2.at' fun o e=>hk l (by simp) o e⟩
 rec_:=fun i h st b hb=>by
  simp only [List.mem_singleton] at hb;subst hb
  obtain ⟨o,ho,_,hd⟩:=st.1;exact ⟨o,_,ho,hd⟩
 live:=fun i h st b hb=>by
  simp only [List.mem_cons,List.not_mem_nil,or_false] at hb
  rcases hb with rfl | rfl
  ·obtain ⟨o,ho,_,hd⟩:=st.1;exact ⟨o,ho,fun v q=>by rw [hd] at q;cases q⟩
  ·obtain ⟨o,_,ho,_,hd,_⟩:=st.2;exact ⟨_,ho,fun v q=>by rw [hd] at q;cases q⟩
 turn:=fun i s Q E d hd st hQ=>by
  rw [List.getElem?_map] at hd
  cases q:kvs[i]? with
  | none=>rw [q] at hd;cases hd
  | some p=>
   rw [q] at hd
   cases hd
   refine wpAny_pyNext_dict_item st.1 st.2 (k:=p.1) (v:=p.2) q fun key h' hk hit hsb=>⟨key,rfl,?_⟩
   obtain ⟨t,rfl⟩:=Value.isInt_shape hk
   obtain ⟨o,ho,hc,hfd⟩:=id hit
   have k:∀ b o,b∉[I]->s.heap.get? b=some o->h'.get? b=some o:=fun b o hb e=>hsb.extBut b o (by simpa using hb) e
   exact letOwned_plain ht ho hc (by decide) (hQ _ h' s.toks ⟨hit,st.2.at' fun o e=>k l o (by simpa using hne) e⟩ ⟨t,rfl⟩ k)
 done:=fun s Q E st hQ=>by
  rw [List.length_map] at st
  exact wpAny_pyNext_dict_end hh st.1 st.2 (by simp) fun h' hx=>⟨rfl,hQ h' s.toks fun b o hb e=>hx b o (by simpa using hb) e⟩
 self:=fun i s Q E st hQ=>wpAny_pyIter_keyiter st.1 hQ
end
end Mine.Internal
end
section
namespace Mine.Internal
open PySem PySem.Spec PyProof.Rows
section
variable {A:Around} {E:Value->Shared->Prop} {s:Shared} {P:Addr->Prop}
theorem enum_get {l:List PV} {i:Nat} {d:PV} (h:(l.zipIdx.map fun p=>PV.tuple [.int p.2,p.1])[i]?=some d):∃ x,l[i]?=some x/\d=.tuple [.int i,x]:=by
 rw [List.getElem?_map,List.getElem?_zipIdx] at h
 cases q:l[i]? with
 | none=>rw [q] at h;cases h
 | some x=>rw [q] at h;cases h;exact ⟨x,rfl,by simp⟩
theorem itr_enum {elts:List Expr} {k:Nat} {pos:Pos} (e it:Addr) (hei:e≠it) {fp:List Addr} (hef:e∉fp) (hif:it∈fp) {vs:Array Value} {ds:List PV} {S:Nat->Heap->Prop}
  (hD:Draws prog w A.in1 it fp vs.size (fun i v=>vs[i]?=some v) S) (hrec:∀ i h,S i h->∃ o fs,h.get? it=some o/\o.data=.fields fs) (hlive:∀ i h,S i h->∀ b∈fp,∃ o,h.get? b=some o/\∀ v,o.data≠.cell v):
  Itr A P e (.Tuple elts k pos) (e::fp) [e,it] (ds.zipIdx.map fun p=>PV.tuple [.int p.2,p.1]) (fun i h=>(∃ old,IsEnum h e it i old)/\S i h/\Rds h P ds vs.toList) where
 sub:=fun b hb=>by
  simp only [List.mem_cons,List.not_mem_nil,or_false] at hb
  rcases hb with rfl | rfl
  ·simp
  ·exact List.mem_cons_of_mem _ hif
 frame:=fun i h h' st hk kp=>⟨let ⟨old,ho⟩:=st.1;⟨old,hk e (by simp) _ ho⟩,hD.frame _ _ _ st.2.1 fun b hb o q=>hk b (List.mem_cons_of_mem _ hb) o q,Rds.to kp ds st.2.2⟩
 rec_:=fun i h st b hb=>by
  simp only [List.mem_cons,List.not_mem_nil,or_false] at hb
  rcases hb with rfl | rfl
  ·obtain ⟨old,ho⟩:=st.1;exact ⟨_,_,ho,rfl⟩
  ·exact hrec i h st.2.1
 live:=fun i h st b hb=>by
  rcases List.mem_cons.mp hb with rfl | hb
  ·obtain ⟨old,ho⟩:=st.1;exact ⟨_,ho,fun v q=>by cases q⟩
  ·exact hlive i h st.2.1 b hb
 turn:=fun i s Q E d hd st hQ=>by
  obtain ⟨x,hx,rfl⟩:=enum_get hd
  obtain ⟨v,hv,hr⟩:=rds_get? st.2.2 hx
  obtain ⟨old,he⟩:=st.1
  have hi:i < vs.size:=(Array.getElem?_eq_some_iff.mp hv).1
  refine wpAny_pyNext_enum_itemD hD he st.2.1 hi hei hef fun x' h' tk hP hout hS hT hsz hk=>⟨_,rfl,?_⟩
  have hP':v=x':=Option.some.inj (hv.symm.trans hP)
  subst hP'
  obtain ⟨oi,fi,hoi,hdi⟩:=hrec i _ st.2.1
  refine wpAny_letOwnedTupleGo_enum hout fun h₂ he₂ hs₂=>?_
  have helt:e < s.heap.objs.size:=Heap.lt_size he
  have k:∀ b o,b∉[e,it]->s.heap.get? b=some o->h₂.get? b=some o:=fun b o hb q=>by
   simp only [List.mem_cons,List.not_mem_nil,or_false,not_or] at hb
   exact hs₂.extBut b o hb.1 (hk b o hb.1 hb.2 q)
  have kp:Kp P s.heap h₂:=kp_wr (wr:=[e,it]) (fun b hb=>by
   simp only [List.mem_cons,List.not_mem_nil,or_false] at hb
   rcases hb with rfl | rfl
   ·exact ⟨_,_,he,rfl⟩
   ·exact ⟨oi,fi,hoi,hdi⟩) k
  refine hQ _ h₂ _ ⟨⟨v,by simpa using he₂⟩,hD.frame _ _ _ hS fun b hb o q=>hs₂.extBut b o (fun z=>hef (z ▸ hb)) q,Rds.to kp ds st.2.2⟩ ?_ k
  exact ⟨_,#[.int i tk,v],rfl,⟨0,hs₂.extBut _ _ (Nat.ne_of_gt helt) hT⟩,(by show 2<=lim;decide),⟨.int i tk,[v],rfl,⟨tk,rfl⟩,v,[],rfl,Rd.to kp x hr,rfl⟩⟩
 done:=fun s Q E st hQ=>by
  obtain ⟨old,he⟩:=st.1
  have hl:(ds.zipIdx.map fun p=>PV.tuple [.int p.2,p.1]).length=vs.size:=by
   rw [List.length_map,List.length_zipIdx,<-st.2.2.length,Array.length_toList]
  have hS:=st.2.1
  rw [hl] at hS
  exact wpAny_pyNext_enum_endD hD he hS fun h' hx=>⟨rfl,hQ h' s.toks fun b o hb q=>hx b o (fun z=>hb (by simp [z])) q⟩
 self:=fun i s Q E st hQ=>by
  obtain ⟨old,he⟩:=st.1
  exact wpAny_pyIter_enum he hQ
end
end Mine.Internal
end
section
namespace Mine.Internal
open PySem PySem.Spec PyProof.Rows
noncomputable def Stay (own:Addr->Option Nat) (h:Heap) (b:Addr):Prop:=own b=none\/∃ o vs n,h.get? b=some o/\o.cls=.type "tuple" /\ o.data=.seq vs n
inductive ItPost (f:Fix) (own:Addr->Option Nat) (tgt:Expr) (cl:Cl) (R:Res (List PV)) (s:Shared) (it:Value) (s₂:Shared):Prop where
 | mk (ds:List PV) (I:Addr) (fp wr:List Addr) (S:Nat->Heap->Prop) (e:R=.ok ds) (ei:it=.ref I) (hi:Itr f.c.A (fun a=>Fz f.c own a/\∃ o,s₂.heap.get? a=some o) I tgt fp wr ds S) (h0:S 0 s₂.heap) (g:Grow f.c.A s s₂) (hw:∀ b∈wr,s.heap.get? b=none) (hf:cl.inner=true->∀ b∈fp,Stay own s₂.heap b) (ln:ds.length<=lim) (hl:∀ b∈fp,b∉frs f.c.A/\b≠f.c.env.locals)
section
variable {f:Fix} {cf:Nat->List PV->Res PV} {own:Addr->Option Nat} {ρ:Slots} {s:Shared} {e:Expr} {p:PE} {k:Cl}
theorem St.notFr {c:Cx} (x:St c own ρ s) {b:Addr} {o:Obj} (ho:s.heap.get? b=some o) (hd:∀ es n,o.data≠.dict es n):b∉frs c.A/\b≠c.env.locals:=by
 refine ⟨fun hb=>?_,fun hb=>?_⟩
 ·obtain ⟨_,m,o',es,ep,ho',hd',_⟩:=x.fr b hb
  rw [ho] at ho';cases ho';exact hd _ _ hd'
 ·obtain ⟨_,m,o',es,ep,ho',hd',_⟩:=x.loc
  rw [<-hb,ho] at ho';cases ho';exact hd _ _ hd'
theorem St.notFrNew {c:Cx} (x:St c own ρ s) {b:Addr} (ho:s.heap.get? b=none):b∉frs c.A/\b≠c.env.locals:=by
 refine ⟨fun hb=>?_,fun hb=>?_⟩
 ·obtain ⟨_,m,o',es,ep,ho',hd',_⟩:=x.fr b hb
  rw [ho] at ho';cases ho'
 ·obtain ⟨_,m,o',es,ep,ho',hd',_⟩:=x.loc
  rw [<-hb,ho] at ho';cases ho'
theorem St.notFrOwn {c:Cx} (x:St c own ρ s) {b:Addr} (ho:own b≠some dum):b∉frs c.A/\b≠c.env.locals:=
 ⟨fun hb=>ho (x.fr b hb).1,fun hb=>ho (hb ▸ x.loc.1)⟩
theorem seq_itr (F:FixOk f) {tgt:Expr} (ht:tgtOk tgt=true) {d:PV} {v:Value} {s₀:Shared} (x0:St f.c own ρ s₀) (g0:Grow f.c.A s₀ s) (x:St f.c own ρ s) (htop:k.top=true) (r:RdC f.c own s₀.heap s.heap k d v) (hn:items .seq [d]≠.stuck) {E:Value->Shared->Prop}:
  wpAny (model prog w) f.c.A (pyIter v) (fun it s₂=>ItPost f own tgt k (items .seq [d]) s₀ it s₂) E s:=by
 have hne:=newSize s.heap
 have ownk:k.inner=true->∀ {a:Addr},(∃ l,d=.list l)\/(∃ l,d=.dict l)->v=.ref a->own a=none:=fun hk a hd hv=>by
  have rr:=r.rd x0 hk
  rcases hd with ⟨l,rfl⟩ | ⟨l,rfl⟩
  ·obtain ⟨a',_,e1,p,_⟩:=rr;rw [e1] at hv;cases hv;exact p.2
  ·obtain ⟨a',_,e1,p,_⟩:=rr;rw [e1] at hv;cases hv;exact p.2
 have tp:=r.tp x0 htop
 have new0:s₀.heap.get? s.heap.objs.size=none:=g0.h.none hne
 cases d with
 | list l=>
  obtain ⟨a,vs,rfl,ho,⟨n,hl⟩,hlen,hr⟩:=tp
  refine wpAny_pyIter_list ⟨_,hl,rfl,n,rfl⟩ ?_
  refine ⟨l,_,_,_,_,rfl,rfl,itr_list F.ok.handled ht s.heap.objs.size a (Nat.ne_of_lt (Heap.lt_size hl)) l vs n,⟨⟨_,Heap.get?_push_size _ rfl,rfl,rfl⟩,Heap.get?_push_of_some _ hl,Rds.imp (fun b o hb _ p=>⟨p,o,hb⟩) l (Rds.to (fun b o hb _=>Heap.get?_push_of_some _ hb) l hr)⟩,g0.trans (Grow.push _ _ _),?_,fun hk b hb=>?_,hlen,fun b hb=>?_⟩
  ·intro b hb;simp only [List.mem_singleton] at hb;rw [hb];exact new0
  ·simp only [List.mem_cons,List.not_mem_nil,or_false] at hb
   rcases hb with rfl | rfl
   ·exact .inl (x.newOwn hne)
   ·exact .inl (ownk hk (.inl ⟨l,rfl⟩) rfl)
  ·simp only [List.mem_cons,List.not_mem_nil,or_false] at hb
   rcases hb with rfl | rfl
   ·exact x.notFrNew hne
   ·exact x.notFr hl fun es n q=>by cases q
 | tuple l=>
  obtain ⟨a,vs,rfl,⟨n,hl⟩,hlen,hr⟩:=tp
  refine wpAny_pyIter_tuple ⟨_,hl,rfl,n,rfl⟩ ?_
  refine ⟨l,_,_,_,_,rfl,rfl,itr_tuple F.ok.handled ht s.heap.objs.size a (Nat.ne_of_lt (Heap.lt_size hl)) l vs n,⟨⟨_,Heap.get?_push_size _ rfl,rfl,rfl⟩,Heap.get?_push_of_some _ hl,Rds.imp (fun b o hb _ p=>⟨p,o,hb⟩) l (Rds.to (fun b o hb _=>Heap.get?_push_of_some _ hb) l hr)⟩,g0.trans (Grow.push _ _ _),?_,fun hk b hb=>?_,hlen,fun b hb=>?_⟩
  ·intro b hb;simp only [List.mem_singleton] at hb;rw [hb];exact new0
  ·simp only [List.mem_cons,List.not_mem_nil,or_false] at hb
   rcases hb with rfl | rfl
   ·exact .inl (x.newOwn hne)
   ·exact .inr ⟨_,_,_,Heap.get?_push_of_some _ hl,rfl,rfl⟩
  ·simp only [List.mem_cons,List.not_mem_nil,or_false] at hb
   rcases hb with rfl | rfl
   ·exact x.notFrNew hne
   ·exact x.notFr hl fun es n q=>by cases q
 | dict l=>
  obtain ⟨a,vs,rfl,ho,n1,hlen,q,hr⟩:=tp
  have hi:items .seq [.dict l]=if dfits l (.int 0)=true then .ok (l.map fun p=>p.1.pv) else .stuck:=rfl
  by_cases hf:dfits l (.int 0)=true
  ·rw [hi,if_pos hf]
   obtain ⟨kvs,⟨o,es,ep,hm⟩,e1,e2⟩:=q.int hf
   have hm':s.heap.DictAt (intKind prog w) a kvs ep:=⟨o,es,hm⟩
   refine wpAny_pyIter_dict (sysNe n1) hm' ?_
   have hk1:(l.map fun p=>p.1.pv)=kvs.map fun p=>PV.int p.1:=by
    have:=congrArg (List.map Key.pv) e1
    rw [List.map_map,List.map_map] at this;exact this
   rw [hk1]
   refine ⟨_,_,_,_,_,rfl,rfl,itr_keys F.ok.handled ht s.heap.objs.size a (Nat.ne_of_lt (Heap.lt_size hm.1)) kvs ep,⟨⟨_,Heap.get?_push_size _ rfl,rfl,rfl⟩,hm'.at' fun o e=>Heap.get?_push_of_some _ e⟩,g0.trans (Grow.push _ _ _),?_,fun hk b hb=>?_,?_,fun b hb=>?_⟩
   ·intro b hb;simp only [List.mem_singleton] at hb;rw [hb];exact new0
   ·simp only [List.mem_cons,List.not_mem_nil,or_false] at hb
    rcases hb with rfl | rfl
    ·exact .inl (x.newOwn hne)
    ·exact .inl (ownk hk (.inr ⟨l,rfl⟩) rfl)
   ·rw [<-hk1,List.length_map];exact hlen
   ·simp only [List.mem_cons,List.not_mem_nil,or_false] at hb
    rcases hb with rfl | rfl
    ·exact x.notFrNew hne
    ·exact x.notFrOwn ho
  ·rw [hi,if_neg hf] at hn;exact absurd rfl hn
 | _=>exact absurd rfl hn
theorem range_itr (F:FixOk f) {tgt:Expr} (ht:tgtOk tgt=true) {a b:Int} {t u v:Tok} {tk:Nat} {s₀:Shared} (x0:St f.c own ρ s₀) (g0:Grow f.c.A s₀ s) (x:St f.c own ρ s) (h0:0<=a) (hab:a<=b) (hb:b<=16777216) {R:Res (List PV)} (hR:R=.ok (upto a b)) {E:Value->Shared->Prop}:
  wpAny (model prog w) f.c.A (pyIter (.ref s.heap.objs.size)) (fun it s₂=>ItPost f own tgt .safe R s₀ it s₂) E { s with heap:=s.heap.push { cls:=.type "range",data:=.fields #[.int a t,.int b u,.int 1 v] },toks:=tk }:=by
 have g1:Grow f.c.A s { s with heap:=s.heap.push { cls:=.type "range",data:=.fields #[.int a t,.int b u,.int 1 v] },toks:=tk }:=Grow.push _ _ _
 have x1:=x.grow F.ok g1
 refine wpAny_pyIter_range (Heap.get?_push_size _ rfl) (PySem.small_one (neg62 h0) (big62 (n:=16777216) (Int.le_trans hab hb) (Nat.le_refl _)) (neg62 (Int.le_trans h0 hab)) (big62 (n:=16777216) hb (Nat.le_refl _))) ?_
 have hne:=newSize (s.heap.push { cls:=.type "range",data:=.fields #[.int a t,.int b u,.int 1 v] })
 refine ⟨upto a b,_,_,_,_,hR,rfl,itr_range F.ok.handled ht _ a b hab,?_,(g0.trans g1).trans (Grow.push _ _ _),fun b' hb'=>?_,fun _ b' hb'=>?_,by rw [upto_length];unfold lim;exact v31 h0 hb,fun b' hb'=>?_⟩
 ·have:=Heap.get?_push_size (s.heap.push { cls:=.type "range",data:=.fields #[.int a t,.int b u,.int 1 v] }) (o:={ cls:=.type "range_iterator",data:=.fields #[rawInt a,rawInt (Builtin.Range.rangeSize a b 1),rawInt 1] }) rfl
  rw [size_two hab] at this
  simpa [IsRangeIter,size_two hab] using this
 ·simp only [List.mem_singleton] at hb';rw [hb'];exact (g0.trans g1).h.none hne
 ·simp only [List.mem_singleton] at hb';rw [hb'];exact .inl (x1.newOwn hne)
 ·simp only [List.mem_singleton] at hb';rw [hb'];exact x1.notFrNew hne
theorem enum_itr (F:FixOk f) {elts:List Expr} {kd:Nat} {tp:Pos} {d:PV} {v:Value} {s₀:Shared} (x0:St f.c own ρ s₀) (g0:Grow f.c.A s₀ s) (x:St f.c own ρ s) (htop:k.top=true) (r:RdC f.c own s₀.heap s.heap k d v) (hn:items .enum [d]≠.stuck) {E:Value->Shared->Prop}:
  wpAny (model prog w) f.c.A (call (.type "enumerate") [v]) (fun xv s₁=>wpAny (model prog w) f.c.A (pyIter xv) (fun it s₂=>ItPost f own (.Tuple elts kd tp) k (items .enum [d]) s₀ it s₂) E s₁) E s:=by
 have hne:=newSize s.heap
 have hne1:s.heap.get? (s.heap.objs.size+1)=none:=by
  cases q:s.heap.get? (s.heap.objs.size+1) with
  | none=>rfl
  | some o=>exact absurd (Heap.lt_size q) (Nat.not_lt.mpr (Nat.le_succ _))
 have tp:=r.tp x0 htop
 cases d with
 | tuple l=>
  obtain ⟨a,vs,rfl,⟨n,hl⟩,hlen,hr⟩:=tp
  have hla:=Heap.lt_size hl
  refine call_enumerate_tuple hl fun h' he hit hsz hk=>?_
  refine wpAny_pyIter_enum he ?_
  refine ⟨_,_,_,_,_,rfl,rfl,itr_enum (P:=fun a=>Fz f.c own a/\∃ o,h'.get? a=some o) (ds:=l) (s.heap.objs.size+1) s.heap.objs.size (Nat.succ_ne_self _) (fp:=[s.heap.objs.size,a]) ?_ (by simp) (drawsTuple (A:=f.c.A.in1) F.ok.handled s.heap.objs.size a (Nat.ne_of_lt hla) vs) (fun i h st=>?_) (fun i h st b hb=>?_),
   ⟨⟨.none,he⟩,⟨hit,⟨_,hk a _ hl,rfl,n,rfl⟩⟩,Rds.imp (fun b o hb _ p=>⟨p,o,hb⟩) l (Rds.to (fun b o hb _=>hk b o hb) l hr)⟩,g0.trans ⟨h',s.toks,rfl,.of_keeps hk⟩,fun b hb=>?_,fun hk' b hb=>?_,?_,fun b hb=>?_⟩
  ·simp only [List.mem_cons,List.not_mem_nil,or_false,not_or];exact ⟨Nat.succ_ne_self _,Nat.ne_of_gt (Nat.lt_succ_of_lt hla)⟩
  ·obtain ⟨o,ho,_,hd⟩:=st.1;exact ⟨o,_,ho,hd⟩
  ·simp only [List.mem_cons,List.not_mem_nil,or_false] at hb
   rcases hb with rfl | rfl
   ·obtain ⟨o,ho,_,hd⟩:=st.1;exact ⟨o,ho,fun v q=>by rw [hd] at q;cases q⟩
   ·obtain ⟨o,ho,_,n,hd⟩:=st.2;exact ⟨o,ho,fun v q=>by rw [hd] at q;cases q⟩
  ·simp only [List.mem_cons,List.not_mem_nil,or_false] at hb
   rcases hb with rfl | rfl
   ·exact g0.h.none hne1
   ·exact g0.h.none hne
  ·simp only [List.mem_cons,List.not_mem_nil,or_false] at hb
   rcases hb with rfl | rfl | rfl
   ·exact .inl (x.newOwn hne1)
   ·exact .inl (x.newOwn hne)
   ·exact .inr ⟨_,_,_,hk _ _ hl,rfl,rfl⟩
  ·rw [List.length_map,List.length_zipIdx];exact hlen
  ·simp only [List.mem_cons,List.not_mem_nil,or_false] at hb
   rcases hb with rfl | rfl | rfl
   ·exact x.notFrNew hne1
   ·exact x.notFrNew hne
   ·exact x.notFr hl fun es n q=>by cases q
 | _=>exact absurd rfl hn
noncomputable def ItOK (f:Fix) (cf:Nat->List PV->Res PV) (tup:Bool) (iter:Expr) (kk:ItK) (src:List PE) (cl:Cl):Prop:=
 (∀ env x,foldedSetIterable iter env x=pure x)/\∀ {own:Addr->Option Nat} {ρ:Slots} {s:Shared} {tgt:Expr},(tup=true->∃ elts k pos,tgt=.Tuple elts k pos)->tgtOk tgt=true->St f.c own ρ s->((evs cf ρ src).bind (items kk))≠.stuck ->
  wpAny (model prog w) f.c.A (eval iter f.c.env) (fun xv s₁=>wpAny (model prog w) f.c.A (pyIter xv) (fun it s₂=>ItPost f own tgt cl ((evs cf ρ src).bind (items kk)) s it s₂) (fun _ _=>False) s₁)
   (fun _ _=>False) s
theorem evs1 {a:PE} {k:ItK}:((evs cf ρ [a]).bind (items k))=(ev cf ρ a).bind fun d=>items k [d]:=by simp only [evsN,evsC];cases ev cf ρ a<;>rfl
theorem it_seq (F:FixOk f) {iter:Expr} {tup:Bool} {a:PE×Cl} (hs:∀ env x,foldedSetIterable iter env x=pure x) (ha:EvOK f cf iter a.1 a.2) (hta:a.2.top=true):ItOK f cf tup iter .seq [a.1] a.2:=by
 refine ⟨hs,fun htup ht x hn=>?_⟩
 rw [evs1] at hn ⊢
 refine ha.use F x hn fun d v s₁ e1 e2 hn1 g1 x1 r1=>?_
 rw [e2]
 exact seq_itr F ht x g1 x1 hta r1 hn1
theorem it_range (F:FixOk f) {g:Str} {gp pos:Pos} {e:Expr} {tup:Bool} {a:PE×Cl} (hb:f.t.bi g "range" = true) (hsa:starred e=false) (ha:EvOK f cf e a.1 a.2):ItOK f cf tup (.Call (.Name g gp) [e] [] pos) .range1 [a.1] .safe:=by
 refine ⟨fun _ _=>rfl,fun htup ht x hn=>?_⟩
 obtain ⟨rfl,hb⟩:=bi_eq hb
 simp only [TC.bi,Bool.and_eq_true,Option.isNone_iff_eq_none] at hb
 rw [evs1] at hn ⊢
 refine wpAny_Call_NameR (wpAny_Name (loadBi F x hb.1.1 hb.1.2 (v:=.type "range") (by decide +kernel) ?_) (by decide +kernel))
 refine PySem.callWith_type (backTo_plain (by simp [hsa])) (zG (by simp [hsa]) (by simp) (wpAny_items_cons ?_ (zD hsa)))
 refine ha.use F x hn fun d v s₁ e1 e2 hn1 g1 x1 r1=>wpAny_items_nil ?_
 rw [e2]
 cases d with
 | int i=>
  obtain ⟨t,rfl⟩:=part_int r1
  simp only [items,l1,rangeI] at hn1 ⊢
  by_cases hc:(decide (0<=i)&&decide (i<=(lim:Nat)))=true
  ·rw [if_pos hc]
   simp only [Bool.and_eq_true,decide_eq_true_eq] at hc
   exact call_range_1 (range_itr F ht x g1 x1 (Int.le_refl 0) hc.1 (by have:=hc.2;unfold lim at this;exact o323 this) rfl)
  ·rw [if_neg hc] at hn1;exact absurd rfl hn1
 | _=>exact absurd rfl hn1
theorem it_enum (F:FixOk f) {g:Str} {gp pos:Pos} {e:Expr} {a:PE×Cl} (hb:f.t.bi g "enumerate" = true) (hsa:starred e=false) (ha:EvOK f cf e a.1 a.2) (hta:a.2.top=true):ItOK f cf true (.Call (.Name g gp) [e] [] pos) .enum [a.1] a.2:=by
 refine ⟨fun _ _=>rfl,fun htup ht x hn=>?_⟩
 obtain ⟨rfl,hb⟩:=bi_eq hb
 simp only [TC.bi,Bool.and_eq_true,Option.isNone_iff_eq_none] at hb
 obtain ⟨elts,kd,tpos,rfl⟩:=htup rfl
 rw [evs1] at hn ⊢
 refine wpAny_Call_NameR (wpAny_Name (loadBi F x hb.1.1 hb.1.2 (v:=.type "enumerate") (by decide +kernel) ?_) (by decide +kernel))
 refine PySem.callWith_type (backTo_plain (by simp [hsa])) (zG (by simp [hsa]) (by simp) (wpAny_items_cons ?_ (zD hsa)))
 refine ha.use F x hn fun d v s₁ e1 e2 hn1 g1 x1 r1=>wpAny_items_nil ?_
 rw [e2]
 exact enum_itr F x g1 x1 hta r1 hn1
end
end Mine.Internal
end
section
set_option backward.eqns.nonrecursive false
namespace Mine.Internal
open PySem PySem.Spec PyProof.Rows
noncomputable def Names (c:Cx) (b:Addr):Prop:=b=c.env.locals\/∃ n,c.env.cells.lookup n=some b
noncomputable def PlaceOf (c:Cx) (y:Str) (b:Addr):Prop:=(c.env.kindOf y=some .local/\b=c.env.locals)\/(c.env.kindOf y=some .cell/\c.env.cells.lookup y=some b)
theorem PlaceOf.names {c:Cx} {y:Str} {b:Addr}:PlaceOf c y b->Names c b
 | .inl h=>.inl h.2
 | .inr h=>.inr ⟨y,h.2⟩
inductive Stored (N:Addr->Prop) (s s':Shared):Prop where
 | mk (h':Heap) (tk:Nat) (e:s'=(up s (h') (tk))) (k:∀ b o,s.heap.get? b=some o->¬ N b->h'.get? b=some o)
theorem mem_of_lookup {α:Type}:∀ {l:List (Str×α)} {x:Str} {a:α},l.lookup x=some a->(x,a)∈l
 | [],_,_,h=>by simp at h
 | (n,c)::r,x,a,h=>by
  simp only [List.lookup_cons] at h
  cases hx:x==n with
  | true=>rw [hx] at h;cases h;rw [eq_of_beq hx];exact List.mem_cons_self
  | false=>rw [hx] at h;exact List.mem_cons_of_mem _ (mem_of_lookup h)
theorem lookup_ne:∀ {l:List (Str×Addr)} {x y:Str} {a b:Addr},l.Pairwise (fun x y=>x.2≠y.2)->l.lookup x=some a->l.lookup y=some b->x≠y->a≠b
 | [],_,_,_,_,_,h,_,_=>by simp at h
 | (n,c)::r,x,y,a,b,hp,h1,h2,hne=>by
  rw [List.pairwise_cons] at hp
  simp only [List.lookup_cons] at h1 h2
  cases hx:x==n with
  | true=>
   rw [hx] at h1
   cases h1
   have:(y==n)=false:=by
    cases hy:y==n with
    | false=>rfl
    | true=>exact absurd ((eq_of_beq hx).trans (eq_of_beq hy).symm) hne
   rw [this] at h2
   exact hp.1 (y,b) (mem_of_lookup h2)
  | false=>
   rw [hx] at h1
   cases hy:y==n with
   | true=>
    rw [hy] at h2;cases h2
    exact fun q=>hp.1 (x,a) (mem_of_lookup h1) q.symm
   | false=>
    rw [hy] at h2
    exact lookup_ne hp.2 h1 h2 hne
section
variable {c:Cx} {own:Addr->Option Nat} {ρ:Slots} {s s':Shared}
theorem nodup_fst {l:List (Str×Nat)} (h:(l.map (·.2)).Nodup) {x y:Str} {i:Nat} (hx:(x,i)∈l) (hy:(y,i)∈l):x=y:=by
 induction l with
 | nil=>cases hx
 | cons p r ih=>
  simp only [List.map_cons,List.nodup_cons,List.mem_map,not_exists,not_and] at h
  rcases List.mem_cons.mp hx with e1 | m1<;>rcases List.mem_cons.mp hy with e2 | m2
  ·rw [<-e1] at e2;cases e2;rfl
  ·subst e1;exact absurd rfl (h.1 (y,i) m2)
  ·subst e2;exact absurd rfl (h.1 (x,i) m1)
  ·exact ih h.2 m1 m2
theorem nodup_snd {l:List (Str×Nat)} (h:(l.map (·.1)).Nodup) {x:Str} {i j:Nat} (hx:(x,i)∈l) (hy:(x,j)∈l):i=j:=by
 induction l with
 | nil=>cases hx
 | cons p r ih=>
  simp only [List.map_cons,List.nodup_cons,List.mem_map,not_exists,not_and] at h
  rcases List.mem_cons.mp hx with e1 | m1<;>rcases List.mem_cons.mp hy with e2 | m2
  ·rw [<-e1] at e2;cases e2;rfl
  ·subst e1;exact absurd rfl (h.1 (x,j) m2)
  ·subst e2;exact absurd rfl (h.1 (x,i) m1)
  ·exact ih h.2 m1 m2
theorem set_get {ρ:Slots} {i j:Nat} {d e:PV} (h:(ρ.set i (some d))[j]?=some (some e)):(j=i/\e=d)\/(j≠i/\ρ[j]?=some (some e)):=by
 rw [List.getElem?_set] at h
 split at h
 ·rename_i q
  split at h
  ·cases h;exact .inl ⟨q.symm,rfl⟩
  ·cases h
 ·rename_i q;exact .inr ⟨fun z=>q z.symm,h⟩
theorem St.store {M:Model} {A:Around} {Q:Unit->Shared->Prop} {E:Value->Shared->Prop} {y:Str} {i:Nat} {d:PV} {v:Value} {N:Addr->Prop} (hN:∀ b,PlaceOf c y b->N b) (ok:CxOk c) (x:St c own ρ s) (hm:(y,i)∈c.names) (r:VRd s.heap c own i d v)
  (hQ:∀ s',St c own (ρ.set i (some d)) s'->Stored N s s'->Q () s'):wpAny M A (storeName c.env y v) Q E s:=by
 obtain ⟨ol,m,hm0⟩:=x.loc
 rcases ok.kinds y i hm with hk | ⟨hk,a,ha⟩
 ·refine wpAny_storeName_local hk hm0 (fun h' hn hs=>?_) (by rw [ok.kind];rfl)
  have kp:∀ {P:Addr->Prop},(∀ a,P a->own a≠some dum)->Kp P s.heap h':=fun hP a o ho hmm=>by
   by_cases e:a=c.env.locals
   ·subst e
    obtain ⟨o',es,ep,ho',hd,_⟩:=hm0
    rw [ho] at ho';cases ho'
    rcases hmm with ⟨_,_,hd',_⟩ | ⟨_,_,hd',hp⟩ | ⟨_,hp⟩
    ·rw [hd] at hd';cases hd'
    ·exact absurd ol (hP _ hp)
    ·exact absurd ol (hP _ hp)
   ·rw [hs.2 a e];exact ho
  refine hQ _ ⟨fun b o hb=>?_,fun b hb=>?_,⟨ol,_,hn⟩,x.locNew,fun n b hb=>?_,x.cellNew,fun b hb=>?_,x.ownNew,fun z j e hz he=>?_⟩ ⟨h',_,rfl,fun b o hb hb'=>by rw [hs.2 b (fun e=>hb' (hN b (.inl ⟨hk,e⟩)))];exact hb⟩
  ·have hne:b≠c.env.locals:=fun e=>by rw [e,x.locNew] at hb;cases hb
   obtain ⟨h1,sl,h2⟩:=x.base b o hb
   exact ⟨fun hf=>(hs.2 b hne).trans (h1 hf),sl,(hs.2 b hne).trans h2⟩
  ·obtain ⟨h1,m',h2⟩:=x.fr b hb
   by_cases e:b=c.env.locals
   ·rw [e];exact ⟨ol,_,hn⟩
   ·exact ⟨h1,m',h2.sameBut hs e⟩
  ·obtain ⟨v',o,ho,hd⟩:=x.cell n b hb
   have hne:b≠c.env.locals:=fun e=>by
    obtain ⟨o',es,ep,ho',hd',_⟩:=hm0
    rw [<-e,ho] at ho';cases ho';rw [hd] at hd';cases hd'
   exact ⟨v',o,(hs.2 b hne).trans ho,hd⟩
  ·obtain ⟨o,ho⟩:=x.ownIn b hb
   by_cases e:b=c.env.locals
   ·obtain ⟨o',_,_,ho',_⟩:=hn;rw [e];exact ⟨o',ho'⟩
   ·exact ⟨o,(hs.2 b e).trans ho⟩
  ·rcases set_get he with ⟨rfl,rfl⟩ | ⟨hne,he'⟩
   ·have:z=y:=nodup_fst ok.nodupI hz hm
    subst this
    exact ⟨v,.inl hk _ hn (by simp),r.kp (kp fun a h=>fz_dum h) fun hi=>kp fun a h q=>by rw [h] at q;cases q;exact ok.dumNot hi⟩
   ·obtain ⟨v',hv,hr⟩:=x.vars z j e hz he'
    have hzy:z≠y:=fun q=>hne (nodup_snd ok.nodupN (q ▸ hz) hm)
    refine ⟨v',?_,hr.kp (kp fun a h=>fz_dum h) fun hi=>kp fun a h q=>by rw [h] at q;cases q;exact ok.dumNot hi⟩
    rcases hv with ⟨k1,m1,hn1,e1⟩ | ⟨k1,a,hl,o,ho,hd⟩
    ·refine .inl k1 _ hn ?_
     simp only [if_neg hzy]
     obtain ⟨o1,es1,ep1,ho1,hd1,_,hf1⟩:=hm0
     obtain ⟨o2,es2,ep2,ho2,hd2,_,hf2⟩:=hn1
     rw [ho1] at ho2;cases ho2
     rw [hd1] at hd2;cases hd2
     rw [<-hf1,hf2,e1]
    ·have hne:a≠c.env.locals:=fun e=>by
      obtain ⟨o',es,ep,ho',hd',_⟩:=hm0
      rw [<-e,ho] at ho';cases ho';rw [hd] at hd';cases hd'
     exact .inr k1 a hl ⟨o,(hs.2 a hne).trans ho,hd⟩
 ·obtain ⟨v0,hv0⟩:=x.cell y a ha
  refine wpAny_storeName_cell ok.kind hk ha hv0 fun h' hn hs=>?_
  obtain ⟨oc,hoc,hdc⟩:=hv0
  have kp:∀ {P:Addr->Prop},Kp P s.heap h':=fun b o ho hmm=>by
   by_cases e:b=a
   ·subst e
    rw [ho] at hoc;cases hoc
    rcases hmm with ⟨_,_,hd',_⟩ | ⟨_,_,hd',_⟩ | ⟨hd',_⟩<;>(rw [hdc] at hd';cases hd')
   ·rw [hs.2 b e];exact ho
  have nsne:∀ {b m'},s.heap.Ns b m'->b≠a:=fun {b m'} h e=>by
   obtain ⟨o',es,ep,ho',hd',_⟩:=h
   rw [e,hoc] at ho';cases ho';rw [hdc] at hd';cases hd'
  refine hQ _ ⟨fun b o hb=>?_,fun b hb=>?_,⟨ol,_,hm0.sameBut hs (nsne hm0)⟩,x.locNew,fun n b hb=>?_,x.cellNew,fun b hb=>?_,x.ownNew,fun z j e hz he=>?_⟩ ⟨h',s.toks,rfl,fun b o hb hb'=>by rw [hs.2 b (fun e=>hb' (hN b (.inr ⟨hk,e ▸ ha⟩)))];exact hb⟩
  ·have hne:b≠a:=fun e=>by rw [e,x.cellNew y a ha] at hb;cases hb
   obtain ⟨h1,sl,h2⟩:=x.base b o hb
   exact ⟨fun hf=>(hs.2 b hne).trans (h1 hf),sl,(hs.2 b hne).trans h2⟩
  ·obtain ⟨h1,m',h2⟩:=x.fr b hb
   exact ⟨h1,m',h2.sameBut hs (nsne h2)⟩
  ·by_cases e:b=a
   ·rw [e];exact ⟨_,hn⟩
   ·obtain ⟨v',o,ho,hd⟩:=x.cell n b hb
    exact ⟨v',o,(hs.2 b e).trans ho,hd⟩
  ·obtain ⟨o,ho⟩:=x.ownIn b hb
   by_cases e:b=a
   ·obtain ⟨o',ho',_⟩:=hn;rw [e];exact ⟨o',ho'⟩
   ·exact ⟨o,(hs.2 b e).trans ho⟩
  ·rcases set_get he with ⟨rfl,rfl⟩ | ⟨hne,he'⟩
   ·have:z=y:=nodup_fst ok.nodupI hz hm
    subst this
    exact ⟨v,.inr hk a ha hn,r.kp kp fun hi=>kp⟩
   ·obtain ⟨v',hv,hr⟩:=x.vars z j e hz he'
    have hzy:z≠y:=fun q=>hne (nodup_snd ok.nodupN (q ▸ hz) hm)
    refine ⟨v',?_,hr.kp kp fun hi=>kp⟩
    rcases hv with ⟨k1,m1,hn1,e1⟩ | ⟨k1,b,hl,o,ho,hd⟩
    ·exact .inl k1 m1 (hn1.sameBut hs (nsne hn1)) e1
    ·exact .inr k1 b hl ⟨o,(hs.2 b (lookup_ne ok.apart hl ha hzy)).trans ho,hd⟩
theorem Stored.refl {N:Addr->Prop}:Stored N s s:=⟨s.heap,s.toks,rfl,fun _ _ h _=>h⟩
theorem Stored.trans {N:Addr->Prop} {s'':Shared} (x:Stored N s s') (y:Stored N s' s''):Stored N s s'':=by
 obtain ⟨h1,t1,rfl,k1⟩:=x
 obtain ⟨h2,t2,rfl,k2⟩:=y
 exact ⟨h2,t2,rfl,fun b o hb hN=>k2 b o (k1 b o hb hN) hN⟩
theorem Stored.keeps {N:Addr->Prop} (k:Keeps s s'):Stored N s s':=by
 obtain ⟨h1,t1,rfl,k1⟩:=k
 exact ⟨h1,t1,rfl,fun b o hb _=>k1 b o hb⟩
theorem Stored.kp (x:St c own ρ s) {N:Addr->Prop} (hNN:∀ b,N b->Names c b) (y:Stored N s s') {P:Addr->Prop} (hP:∀ a,P a->own a≠some dum):Kp P s.heap s'.heap:=by
 obtain ⟨h',tk,rfl,k⟩:=y
 intro a o ho hm
 refine k a o ho fun hN=>?_
 rcases hNN a hN with rfl | ⟨n,hn⟩
 ·obtain ⟨ol,m,o',es,ep,ho',hd,_⟩:=x.loc
  rw [ho] at ho';cases ho'
  rcases hm with ⟨_,_,hd',_⟩ | ⟨_,_,hd',hp⟩ | ⟨_,hp⟩
  ·rw [hd] at hd';cases hd'
  ·exact hP _ hp ol
  ·exact hP _ hp ol
 ·obtain ⟨v,o',ho',hd⟩:=x.cell n a hn
  rw [ho] at ho';cases ho'
  rcases hm with ⟨_,_,hd',_⟩ | ⟨_,_,hd',_⟩ | ⟨hd',_⟩<;>(rw [hd] at hd';cases hd')
end
section
variable {c:Cx} {own:Addr->Option Nat} {ρ:Slots} {s s':Shared}
noncomputable def AllAt (c:Cx) (N:Addr->Prop):List (Str×Pos)->List Nat->Prop
 | [],[]=>True
 | p::ps,i::is=>((p.1,i)∈c.names/\i∉c.mv/\∀ b,PlaceOf c p.1 b->N b)/\AllAt c N ps is
 | _,_=>False
theorem AllAt.length {N:Addr->Prop}:∀ {xs:List (Str×Pos)} {is:List Nat},AllAt c N xs is->xs.length=is.length
 | [],[],_=>rfl
 | _::_,_::_,h=>by simp [AllAt.length h.2]
inductive TgtAt (c:Cx) (N:Addr->Prop):Expr->Tgt->Prop where
 | one {x i pos} (h:(x,i)∈c.names) (hi:i∉c.mv) (hN:∀ b,PlaceOf c x b->N b):TgtAt c N (.Name x pos) (.one i)
 | many {xs:List (Str×Pos)} {is:List Nat} {k pos} (h:AllAt c N xs is):TgtAt c N (.Tuple (xs.map fun p=>.Name p.1 p.2) k pos) (.many is)
theorem TgtAt.ok {N:Addr->Prop} {e:Expr} {t:Tgt} (h:TgtAt c N e t):tgtOk e=true:=by cases h<;>rfl
theorem each_store {N:Addr->Prop} (hNN:∀ b,N b->Names c b) (ok:CxOk c) {A:Around} {E:Value->Shared->Prop} {xs:List (Str×Pos)} {Q:Unit->Shared->Prop}:∀ {is:List Nat} {l:List PV} {vs:List Value} {ρ:Slots} {s:Shared},
  AllAt c N xs is->St c own ρ s->Rds s.heap (Fz c own) l vs->is.length=l.length ->
  (∀ s',St c own ((is.zip l).foldl (fun ρ p=>ρ.set p.1 (some p.2)) ρ) s'->Stored N s s'->Q () s') ->
  wpAny (model prog w) A (assignInOrder ((assignEach (xs.map fun p=>.Name p.1 p.2) c.env).map (·.2)) vs) Q E s:=by
 induction xs with
 | nil=>
  intro is l vs ρ s ha x hr hl hQ
  cases is with
  | cons _ _=>exact ha.elim
  | nil=>
   cases l with
   | cons _ _=>cases hl
   | nil=>cases (show vs=[] from hr);exact wpAny_assignInOrder_none (hQ s x .refl)
 | cons p xs ih=>
  intro is l vs ρ s ha x hr hl hQ
  cases is with
  | nil=>exact ha.elim
  | cons i is=>
   cases l with
   | nil=>cases hl
   | cons d l=>
    cases vs with
    | nil=>obtain ⟨_,_,h,_⟩:=hr;cases h
    | cons v r=>
     have r1:Rd s.heap (Fz c own) d v/\Rds s.heap (Fz c own) l r:=by
      obtain ⟨_,_,h,r1,r2⟩:=hr;cases h;exact ⟨r1,r2⟩
     exact wpAny_assignInOrder_more (wpAny_assign_Name (x.store ha.1.2.2 ok ha.1.1 (d:=d) (by unfold VRd;rw [if_neg ha.1.2.1];exact r1.1) fun s' x' st=>
      ih ha.2 x' (Rds.to (st.kp x hNN fun a h=>fz_dum h) l r1.2) (Nat.succ.inj hl) fun s'' x'' st'=>hQ s'' x'' (st.trans st')))
theorem each_length:∀ (xs:List (Str×Pos)) (env:Env),(assignEach (xs.map fun p=>.Name p.1 p.2) env).length=xs.length
 | [],_=>rfl
 | p::xs,env=>congrArg (·+1) (each_length xs env)
theorem each_star:∀ (xs:List (Str×Pos)) (env:Env),(assignEach (xs.map fun p=>.Name p.1 p.2) env).findIdx? (·.1)=none
 | [],_=>rfl
 | p::xs,env=>by
  show List.findIdx? _ (_::assignEach (xs.map fun p=>.Name p.1 p.2) env)=none
  rw [List.findIdx?_cons,each_star xs env];rfl
theorem tgt_store {N:Addr->Prop} (hNN:∀ b,N b->Names c b) (ok:CxOk c) {A:Around} (hh:A.handled=none) {E:Value->Shared->Prop} {Q:Unit->Shared->Prop} {e:Expr} {t:Tgt} (h:TgtAt c N e t) (x:St c own ρ s) {d:PV} {v:Value} (r:Rd s.heap (Fz c own) d v) (hn:setTgt t d ρ≠.stuck)
  (hQ:∀ ρ' s',setTgt t d ρ=.ok ρ'->St c own ρ' s'->Stored N s s'->Q () s'):wpAny (model prog w) A (assign e c.env v) Q E s:=by
 cases h with
 | one hm hi hN=>exact wpAny_assign_Name (x.store hN ok hm (by unfold VRd;rw [if_neg hi];exact r) fun s' x' st=>hQ _ s' rfl x' st)
 | many hps=>
  rename_i xs is k pos
  cases d with
  | tuple l=>
   simp only [setTgt] at hn hQ
   split at hn
   ·rename_i hl
    rw [if_pos hl] at hQ
    obtain ⟨a,vs,rfl,⟨n,hs⟩,hlen,hr⟩:=r
    have hlv:=hr.length
    refine wpAny_assign_Tuple hh ⟨_,hs,rfl,n,rfl⟩ (by rw [each_length,hps.length,hl,<-hlv];simp) (each_star xs c.env) fun h' hx=>?_
    have kk:Keeps s { s with heap:=h' }:=⟨h',s.toks,rfl,fun b o hb=>hx b o (Nat.ne_of_lt (Heap.lt_size hb)) hb⟩
    have x1:St c own ρ { s with heap:=h' }:=x.grow ok (Grow.of_keeps kk)
    exact each_store hNN ok hps x1 (Rds.to (fun b o hb _=>hx b o (Nat.ne_of_lt (Heap.lt_size hb)) hb) l hr) hl fun s' x' st=>hQ _ s' rfl x' ((Stored.keeps kk).trans st)
   ·exact absurd rfl hn
  | _=>exact absurd rfl hn
end
end Mine.Internal
end
section
namespace Mine.Internal
open PySem PySem.Spec PyProof.Rows
noncomputable def cloF (env:Env) (names:List (Str×NameKind)):List (Str×Addr):=names.filterMap fun p=>if p.2==.free then some (p.1,(env.cells.lookup p.1).getD 0) else none
theorem cloF_free {env:Env} {n:Str} {k:NameKind} {r:List (Str×NameKind)} (hk:(k==NameKind.free)=true):cloF env ((n,k)::r)=(n,(env.cells.lookup n).getD 0)::cloF env r:=by
 unfold cloF;rw [List.filterMap_cons];simp only [hk,if_true]
theorem cloF_not {env:Env} {n:Str} {k:NameKind} {r:List (Str×NameKind)} (hk:(k==NameKind.free)=false):cloF env ((n,k)::r)=cloF env r:=by
 unfold cloF;rw [List.filterMap_cons];simp only [hk,Bool.false_eq_true,if_false]
theorem clo_eq {scope:Scope} {env:Env} (h:∀ p∈scope.names,p.2=.free->∃ a,env.cells.lookup p.1=some a):closureFor scope env=pure (cloF env scope.names).reverse:=by
 simp only [closureFor]
 have go:∀ (names:List (Str×NameKind)) (acc:List (Str×Addr)),(∀ p∈names,p.2=.free->∃ a,env.cells.lookup p.1=some a) ->
   (forIn names acc fun (x:Str×NameKind) (r:List (Str×Addr))=>if (x.2==NameKind.free)=true then (do let a <-cellOf env x.1;pure (ForInStep.yield ((x.1,a)::r))) else pure (ForInStep.yield r):Sem _)=pure ((cloF env names).reverse++acc):=by
  intro names
  induction names with
  | nil=>intro acc _;rfl
  | cons p r ih=>
   intro acc hp
   obtain ⟨n,k⟩:=p
   rw [List.forIn_cons]
   cases hk:(k==NameKind.free) with
   | true=>
    obtain ⟨a,ha⟩:=hp (n,k) List.mem_cons_self (eq_of_beq hk)
    have hc:cellOf env n=pure a:=by unfold cellOf;rw [ha]
    have e1:cloF env ((n,k)::r)=(n,a)::cloF env r:=by rw [cloF_free hk,ha];rfl
    simp only [if_true,hc,e1]
    rw [List.reverse_cons,List.append_assoc]
    exact ih _ fun p hm=>hp p (List.mem_cons_of_mem _ hm)
   | false=>
    have e1:cloF env ((n,k)::r)=cloF env r:=cloF_not hk
    simp only [Bool.false_eq_true,if_false,e1]
    exact ih _ fun p hm=>hp p (List.mem_cons_of_mem _ hm)
 have:=go scope.names [] h
 rw [List.append_nil] at this
 rw [this]
 rfl
theorem clo_mem {env:Env} {names:List (Str×NameKind)} {n:Str} {a:Addr} (h:(n,a)∈cloF env names):(n,NameKind.free)∈names/\a=(env.cells.lookup n).getD 0:=by
 obtain ⟨p,hp,e⟩:=List.mem_filterMap.mp h
 split at e
 ·rename_i hk
  cases e
  have:=eq_of_beq hk
  exact ⟨by rw [<-this];exact hp,rfl⟩
 ·cases e
theorem mem_clo {env:Env} {names:List (Str×NameKind)} {n:Str} (h:(n,NameKind.free)∈names):(n,(env.cells.lookup n).getD 0)∈cloF env names:=
 List.mem_filterMap.mpr ⟨_,h,by simp⟩
theorem clo_keys {env:Env}:∀ {names:List (Str×NameKind)},(names.map (·.1)).Nodup->((cloF env names).map (·.1)).Nodup
 | [],_=>List.nodup_nil
 | (n,k)::r,h=>by
  simp only [List.map_cons,List.nodup_cons] at h
  have ih:=clo_keys (env:=env) h.2
  cases hk:(k==NameKind.free) with
  | true=>
   have e1:cloF env ((n,k)::r)=(n,(env.cells.lookup n).getD 0)::cloF env r:=cloF_free hk
   rw [e1,List.map_cons,List.nodup_cons]
   refine ⟨fun hm=>?_,ih⟩
   obtain ⟨p,hp,e⟩:=List.mem_map.mp hm
   obtain ⟨n',a⟩:=p
   simp only at e
   subst e
   exact h.1 (List.mem_map.mpr ⟨_,(clo_mem hp).1,rfl⟩)
  | false=>
   have e1:cloF env ((n,k)::r)=cloF env r:=cloF_not hk
   rw [e1];exact ih
theorem lookup_of_mem {α:Type}:∀ {l:List (Str×α)} {x:Str} {a:α},(l.map (·.1)).Nodup->(x,a)∈l->l.lookup x=some a
 | [],_,_,_,h=>by cases h
 | (n,c)::r,x,a,hn,h=>by
  simp only [List.map_cons,List.nodup_cons] at hn
  simp only [List.lookup_cons]
  rcases List.mem_cons.mp h with e | hm
  ·cases e;simp
  ·have:(x==n)=false:=by
    cases q:x==n with
    | false=>rfl
    | true=>exact absurd (List.mem_map.mpr ⟨_,hm,rfl⟩) (by rw [eq_of_beq q];exact hn.1)
   rw [this];exact lookup_of_mem hn.2 hm
structure Clo (env:Env) (names:List (Str×NameKind)) (cl:List (Str×Addr)):Prop where
 to:∀ n a,cl.lookup n=some a->env.cells.lookup n=some a
 has:∀ n,(n,NameKind.free)∈names->∃ a,cl.lookup n=some a
 apart:cl.Pairwise fun x y=>x.2≠y.2
theorem clo_ok {scope:Scope} {env:Env} (hn:(scope.names.map (·.1)).Nodup) (ha:env.cells.Pairwise fun x y=>x.2≠y.2) (h:∀ p∈scope.names,p.2=.free->∃ a,env.cells.lookup p.1=some a):Clo env scope.names (cloF env scope.names).reverse where
 to:=fun n a e=>by
  have hm:=mem_of_lookup e
  rw [List.mem_reverse] at hm
  obtain ⟨h1,h2⟩:=clo_mem hm
  obtain ⟨b,hb⟩:=h _ h1 rfl
  rw [hb] at h2 ⊢;rw [h2];rfl
 has:=fun n hm=>⟨_,lookup_of_mem (by rw [List.map_reverse];exact List.pairwise_reverse.mpr ((clo_keys hn).imp fun h=>Ne.symm h)) (List.mem_reverse.mpr (mem_clo hm))⟩
 apart:=by
  rw [List.pairwise_reverse]
  have:=clo_keys (env:=env) hn
  rw [List.Nodup,List.pairwise_map] at this
  refine this.imp_of_mem fun {x y} hx hy hne=>?_
  obtain ⟨h1,h2⟩:=clo_mem (n:=x.1) (a:=x.2) hx
  obtain ⟨h3,h4⟩:=clo_mem (n:=y.1) (a:=y.2) hy
  obtain ⟨b,hb⟩:=h _ h1 rfl
  obtain ⟨b',hb'⟩:=h _ h3 rfl
  rw [h2,h4,hb,hb']
  exact (lookup_ne ha hb hb' hne).symm
section
variable {c:Cx} {own:Addr->Option Nat} {ρ:Slots} {s:Shared}
noncomputable def Loose (c:Cx) (own:Addr->Option Nat) (s:Shared) (W:Addr->Prop):Prop:=
 ∀ b,W b->c.h0.get? b=none/\∃ o,s.heap.get? b=some o/\((∃ vs,o.data=.fields vs)\/(own b=some dum/\∃ vs n,o.data=.seq vs n/\o.cls=.type "list")\/(own b=some dum/\b∉frs c.A/\b≠c.env.locals/\∃ es n,o.data=.dict es n))
theorem Loose.kp {W:Addr->Prop} (hW:Loose c own s W) {h':Heap} (k:∀ b o,¬ W b->s.heap.get? b=some o->h'.get? b=some o) {P:Addr->Prop} (hP:∀ a,P a->own a≠some dum):Kp P s.heap h':=fun a o ho hm=>by
 refine k a o (fun hw=>?_) ho
 obtain ⟨_,o',ho',hd⟩:=hW a hw
 rw [ho] at ho';cases ho'
 rcases hd with ⟨vs,hd⟩ | ⟨hd1,vs,n,hd2,hd3⟩ | ⟨hd1,_,_,es,n,hd2⟩
 ·rcases hm with ⟨_,_,hd',_⟩ | ⟨_,_,hd',_⟩ | ⟨hd',_⟩<;>(rw [hd] at hd';cases hd')
 ·rcases hm with ⟨_,_,_,hc | ⟨hp,_⟩⟩ | ⟨_,_,hd',hp⟩ | ⟨_,hp⟩
  ·rw [hd3] at hc;simp at hc
  ·exact hP a hp hd1
  ·exact hP a hp hd1
  ·exact hP a hp hd1
 ·rcases hm with ⟨_,_,hd',_⟩ | ⟨_,_,hd',hp⟩ | ⟨_,hp⟩
  ·rw [hd2] at hd';cases hd'
  ·exact hP a hp hd1
  ·exact hP a hp hd1
structure Reown (c:Cx) (own own':Addr->Option Nat):Prop where
 non:∀ a,own a=none->own' a=none
 som:∀ a i,i∈c.mv->own a=some i->own' a=some i
 back:∀ a i,i∈c.mv->own' a=some i->own a=some i
 fr:∀ a∈frs c.A,own' a=own a
 loc:own' c.env.locals=own c.env.locals
theorem Reown.refl:Reown c own own:=⟨fun _ h=>h,fun _ _ _ h=>h,fun _ _ _ h=>h,fun _ _=>rfl,rfl⟩
theorem VRd.reown {own':Addr->Option Nat} (r:Reown c own own') {h:Heap} {i:Nat} {d:PV} {v:Value} (x:VRd h c own i d v):VRd h c own' i d v:=by
 unfold VRd at x ⊢
 split
 ·rename_i hi
  rw [if_pos hi] at x
  exact RdO.imp (fun a _ _ _ p=>r.som a i hi p) (fun a _ _ _ p=>⟨p.1,r.non a p.2⟩) x
 ·rename_i hi
  rw [if_neg hi] at x
  exact Rd.imp (fun a _ _ _ p=>⟨p.1,r.non a p.2⟩) d x
theorem St.change' (ok:CxOk c) (x:St c own ρ s) {W:Addr->Prop} (hW:Loose c own s W) {h':Heap} {tk:Nat} {own':Addr->Option Nat} (hr:Reown c own own') (hS:∀ b,W b->own' b≠none->∃ o,h'.get? b=some o) (hS':∀ b,¬ W b->own' b=own b)
  (k:∀ b o,¬ W b->s.heap.get? b=some o->h'.get? b=some o):St c own' ρ (up s (h') (tk)) where
 base:=fun b o hb=>by
  have hnw:¬ W b:=fun hw=>by have:=(hW b hw).1;rw [hb] at this;cases this
  obtain ⟨h1,sl,h2⟩:=x.base b o hb
  exact ⟨fun hf=>k b _ hnw (h1 hf),sl,k b _ hnw h2⟩
 fr:=fun b hb=>by
  obtain ⟨h1,m,o,es,ep,ho,hd,r⟩:=x.fr b hb
  refine ⟨(hr.fr b hb).trans h1,m,o,es,ep,k b o (fun hw=>?_) ho,hd,r⟩
  obtain ⟨_,o',ho',hq⟩:=hW b hw
  rw [ho] at ho';cases ho'
  rcases hq with ⟨vs,hq⟩ | ⟨_,_,_,hq,_⟩ | ⟨_,hq,_⟩
  ·rw [hd] at hq;cases hq
  ·rw [hd] at hq;cases hq
  ·exact hq hb
 loc:=by
  obtain ⟨h1,m,o,es,ep,ho,hd,r⟩:=x.loc
  refine ⟨hr.loc.trans h1,m,o,es,ep,k _ o (fun hw=>?_) ho,hd,r⟩
  obtain ⟨_,o',ho',hq⟩:=hW _ hw
  rw [ho] at ho';cases ho'
  rcases hq with ⟨vs,hq⟩ | ⟨_,_,_,hq,_⟩ | ⟨_,_,hq,_⟩
  ·rw [hd] at hq;cases hq
  ·rw [hd] at hq;cases hq
  ·exact hq rfl
 locNew:=x.locNew
 cell:=fun n b hb=>by
  obtain ⟨v,o,ho,hd⟩:=x.cell n b hb
  refine ⟨v,o,k b o (fun hw=>?_) ho,hd⟩
  obtain ⟨_,o',ho',hq⟩:=hW b hw
  rw [ho] at ho';cases ho'
  rcases hq with ⟨vs,hq⟩ | ⟨_,_,_,hq,_⟩ | ⟨_,_,_,_,_,hq⟩<;>(rw [hd] at hq;cases hq)
 cellNew:=x.cellNew
 ownIn:=fun b hb=>by
  by_cases hw:W b
  ·exact hS b hw hb
  ·rw [hS' b hw] at hb;obtain ⟨o,ho⟩:=x.ownIn b hb;exact ⟨o,k b o hw ho⟩
 ownNew:=fun a i h hi=>x.ownNew a i (hr.back a i hi h) hi
 vars:=fun y i d hm hd=>by
  obtain ⟨v,hv,hq⟩:=x.vars y i d hm hd
  refine ⟨v,?_,VRd.reown hr (hq.kp (hW.kp k fun a h=>fz_dum h) fun hi=>hW.kp k fun a h e=>by rw [h] at e;cases e;exact ok.dumNot hi)⟩
  rcases hv with ⟨k1,m,⟨o,es,ep,ho,hd,r⟩,e⟩ | ⟨k1,a,hl,o,ho,hd⟩
  ·refine .inl k1 m ⟨o,es,ep,k _ o (fun hw=>?_) ho,hd,r⟩ e
   obtain ⟨_,o',ho',hq⟩:=hW _ hw
   rw [ho] at ho';cases ho'
   rcases hq with ⟨vs,hq⟩ | ⟨_,_,_,hq,_⟩ | ⟨_,_,hq,_⟩
   ·rw [hd] at hq;cases hq
   ·rw [hd] at hq;cases hq
   ·exact hq rfl
  ·refine .inr k1 a hl ⟨o,k _ o (fun hw=>?_) ho,hd⟩
   obtain ⟨_,o',ho',hq⟩:=hW _ hw
   rw [ho] at ho';cases ho'
   rcases hq with ⟨vs,hq⟩ | ⟨_,_,_,hq,_⟩ | ⟨_,_,_,_,_,hq⟩<;>(rw [hd] at hq;cases hq)
theorem St.change (ok:CxOk c) (x:St c own ρ s) {W:Addr->Prop} (hW:Loose c own s W) {h':Heap} {tk:Nat} (hS:∀ b,W b->own b≠none->∃ o,h'.get? b=some o)
  (k:∀ b o,¬ W b->s.heap.get? b=some o->h'.get? b=some o):St c own ρ (up s (h') (tk)):=x.change' ok hW .refl hS (fun _ _=>rfl) k
end
noncomputable def compFix (f:Fix) (scope:Scope) (xs:List Str) (cl:List (Str×Addr)) (C:Addr):Fix:=
 { f with c:={ f.c with env:=compEnvC scope cl C f.c.env,names:=compSlots f.t scope.names xs },t:=compTC f.t scope.names xs }
theorem relabel_names {f:Fix} (F:FixOk f) (scope:Scope):(relabel scope f.c.env).names=compNames f.t.scope scope.names:=by
 show scope.names.map _=scope.names.map _
 refine List.map_congr_left fun p _=>?_
 obtain ⟨n,k⟩:=p
 have hk:(f.c.env.scope.kind==ScopeKind.function)=true:=by rw [F.ok.kind];rfl
 have hl:f.c.env.kindOf n=f.t.scope.lookup n:=by show f.c.env.scope.names.lookup n=_;rw [F.scope]
 simp only [hk,hl,Bool.and_true]
structure CompOk (t:TC) (names:List (Str×NameKind)) (xs:List Str):Prop where
 each:∀ x∈xs,names.lookup x=some .local/\(x==("__debug__" : Str))=false
 nodup:xs.Nodup
 kinds:∀ p∈names,p.2=.local\/p.2=.globalImplicit\/(p.2=.free/\t.scope.lookup p.1=some .cell/\∃ i,(p.1,i)∈t.slots)
 keys:(names.map (·.1)).Nodup
theorem compOk_ok {t:TC} {names:List (Str×NameKind)} {xs:List Str} (h:compOk t names xs=true):CompOk t names xs:=by
 unfold compOk at h
 simp only [Bool.and_eq_true,List.all_eq_true,decide_eq_true_eq,Bool.or_eq_true] at h
 obtain ⟨⟨⟨⟨h1,h2⟩,h3⟩,h4⟩,h5⟩:=h
 refine ⟨fun x hx=>?_,h2,fun p hp=>?_,h5⟩
 ·obtain ⟨⟨a,b⟩,c⟩:=h1 x hx
  exact ⟨eq_of_beq a,by simpa using b⟩
 ·rcases h3 p hp with (a | a) | a
  ·exact .inl (eq_of_beq a)
  ·exact .inr (.inl (eq_of_beq a))
  ·refine .inr (.inr ⟨eq_of_beq a.1.1,eq_of_beq a.1.2,?_⟩)
   obtain ⟨i,hi⟩:=Option.isSome_iff_exists.mp a.2
   exact ⟨i,mem_of_lookup hi⟩
theorem compNames_cell {outer names:List (Str×NameKind)} {x:Str} (h:(compNames outer names).lookup x=some .cell) (hk:∀ p∈names,p.2≠.cell):(x,NameKind.free)∈names/\outer.lookup x=some .cell:=by
 have hm:=mem_of_lookup h
 obtain ⟨p,hp,e⟩:=List.mem_map.mp hm
 split at e
 ·rename_i hc
  cases e
  simp only [Bool.and_eq_true] at hc
  have:=eq_of_beq hc.1
  exact ⟨by rw [<-this];exact hp,eq_of_beq hc.2⟩
 ·subst e;exact absurd rfl (hk _ hp)
theorem zipIdx_mem {xs:List Str} {t0:Nat} {x:Str} {i:Nat} (h:(x,i)∈xs.zipIdx.map (fun p=>(p.1,t0+p.2))):x∈xs/\t0<=i/\i < t0+xs.length/\xs[i-t0]?=some x:=by
 obtain ⟨p,hp,e⟩:=List.mem_map.mp h
 obtain ⟨y,j⟩:=p
 cases e
 have:=List.mem_zipIdx' hp
 obtain ⟨h1,h2⟩:=this
 simp only
 refine ⟨by rw [h2];exact List.getElem_mem h1,Nat.le_add_right _ _,by exact o324 h1,?_⟩
 rw [Nat.add_sub_cancel_left,List.getElem?_eq_getElem h1,<-h2]
theorem compSlots_cell {t:TC} {names:List (Str×NameKind)} {xs:List Str} {x:Str} {i:Nat} (h:(x,i)∈compSlots t names xs):
  (x∈xs/\t.cbase<=i/\i < t.cbase+xs.length)\/((x,i)∈t.slots/\x∉xs/\(compNames t.scope names).lookup x=some .cell):=by
 rcases List.mem_append.mp h with h | h
 ·obtain ⟨h1,h2,h3,_⟩:=zipIdx_mem h;exact .inl ⟨h1,h2,h3⟩
 ·obtain ⟨h1,h2⟩:=List.mem_filter.mp h
  simp only [Bool.and_eq_true] at h2
  refine .inr ⟨h1,?_,eq_of_beq h2.2⟩
  simpa using h2.1
theorem zip_nodup (xs:List Str) (t0:Nat) (h:xs.Nodup):((xs.zipIdx.map (fun p=>(p.1,t0+p.2))).map (·.1)).Nodup/\((xs.zipIdx.map (fun p=>(p.1,t0+p.2))).map (·.2)).Nodup:=by
 rw [List.map_map,List.map_map]
 constructor
 ·have:(List.map ((fun x=>x.fst) ∘ fun p:Str×Nat=>(p.1,t0+p.2)) xs.zipIdx)=xs:=by
   simp [Function.comp_def]
  rw [this];exact h
 ·have:(List.map ((fun x=>x.snd) ∘ fun p:Str×Nat=>(p.1,t0+p.2)) xs.zipIdx)=(List.range' 0 xs.length).map (t0+·):=by
   rw [<-List.zipIdx_map_snd 0 xs,List.map_map];rfl
  rw [this,List.Nodup,List.pairwise_map]
  exact (List.nodup_range' (step:=1)).imp fun h q=>h (by exact o325 q)
theorem nodup_filter_map {α β:Type} {l:List α} {g:α->β} {p:α->Bool} (h:(l.map g).Nodup):((l.filter p).map g).Nodup:=by
 rw [List.Nodup,List.pairwise_map] at h ⊢
 exact h.filter p
theorem compFix_ok {f:Fix} (F:FixOk f) {scope:Scope} {xs:List Str} {cl:List (Str×Addr)} {C:Addr} (hk:scope.kind=.function) (ok:CompOk f.t scope.names xs) (hcl:Clo f.c.env scope.names cl):FixOk (compFix f scope xs cl C) where
 ok:={
  kind:=hk
  nodupN:=by
   show ((compSlots f.t scope.names xs).map (·.1)).Nodup
   unfold compSlots
   rw [List.map_append,List.nodup_append]
   refine ⟨(zip_nodup xs _ ok.nodup).1,nodup_filter_map (F.names ▸ F.ok.nodupN),fun a ha b hb e=>?_⟩
   subst e
   obtain ⟨p,hp,rfl⟩:=List.mem_map.mp ha
   obtain ⟨q,hq,e⟩:=List.mem_map.mp hb
   have h1:=(zipIdx_mem (i:=p.2) hp).1
   have h2:=(List.mem_filter.mp hq).2
   simp only [Bool.and_eq_true] at h2
   rw [e] at h2
   have h3:p.1∉xs:=by simpa using h2.1
   exact h3 h1
  nodupI:=by
   show ((compSlots f.t scope.names xs).map (·.2)).Nodup
   unfold compSlots
   rw [List.map_append,List.nodup_append]
   refine ⟨(zip_nodup xs _ ok.nodup).2,nodup_filter_map (F.names ▸ F.ok.nodupI),fun a ha b hb e=>?_⟩
   subst e
   obtain ⟨p,hp,rfl⟩:=List.mem_map.mp ha
   obtain ⟨q,hq,e⟩:=List.mem_map.mp hb
   have h1:=(zipIdx_mem (x:=p.1) hp).2.1
   have h2:=F.cb q.1 q.2 (List.mem_filter.mp hq).1
   exact (o326 e h1 h2).elim
  kinds:=fun x i hm=>by
   have hne:∀ p∈scope.names,p.2≠.cell:=fun p hp q=>by rcases ok.kinds p hp with h | h | h<;>simp [q] at h
   rcases compSlots_cell hm with ⟨h1,_⟩ | ⟨h1,h2,h3⟩
   ·exact .inl (lookup_relabel_local (ok.each x h1).1)
   ·refine .inr ⟨?_,?_⟩
    ·show (relabel scope f.c.env).names.lookup x=_
     rw [relabel_names F];exact h3
    ·exact hcl.has x (compNames_cell h3 hne).1
  debug:=fun x i hm=>by
   rcases compSlots_cell hm with ⟨h1,_⟩ | ⟨h1,h2,h3⟩
   ·exact (ok.each x h1).2
   ·exact F.ok.debug x i (F.names ▸ h1)
  apart:=hcl.apart
  handled:=F.ok.handled
  dumNot:=F.ok.dumNot
  units:=F.ok.units
  frames:=F.ok.frames }
 scope:=relabel_names F scope
 names:=rfl
 mv:=F.mv
 gl:=F.gl
 bl:=F.bl
 gnd:=F.gnd
 base:=F.base
 depth:=F.depth
 units:=F.units
 cb:=fun x i hm=>by
  rcases compSlots_cell hm with ⟨_,_,h1⟩ | ⟨h1,_⟩
  ·exact h1
  ·exact Nat.lt_of_lt_of_le (F.cb x i h1) (Nat.le_add_right _ _)
 mvb:=fun i hi=>Nat.lt_of_lt_of_le (F.mvb i hi) (Nat.le_add_right _ _)
end Mine.Internal
end
section
namespace Mine.Internal
open PySem PySem.Spec PyProof.Rows
section
variable {A:Around} {R:Result->Shared->Prop} {s:Shared}
theorem compLoop_own {elt target iter:Expr} {ifs:List Expr} {scope:Scope} {pos:Pos} {it acc:Value} {env:Env} (I:Nat->Shared->Prop)
  (turn:∀ n s,I n s->wpAny (model prog w) A (pyNext it) (fun r s₁=>match r with
   | none=>R (.ok .next) s₁
   | some v=>wpAny (model prog w) A (letOwnedTupleGo target it v) (fun _ s₁=>wpAny (model prog w) A (assign target env v) (fun _ s₂=>
     wpAny (model prog w) A (forIn ifs true fun c r=>if r=true then do let ok <-isTrue c env (eval c env);pure (ForInStep.yield ok) else pure (ForInStep.yield r)) (fun ok s₃=>
      if ok=true then wpAny (model prog w) A (eval elt env) (fun x s₄=>
       wpAny (model prog w) A (call (.builtin "list.append") [acc,x]) (fun _ s₅=>∃ m,m < n/\I m s₅) (notedBy (model prog w) A env fun e s'=>R (.error e) s') s₄) (notedBy (model prog w) A env fun e s'=>R (.error e) s') s₃
      else ∃ m,m < n/\I m s₃) (notedBy (model prog w) A env fun e s'=>R (.error e) s') s₂) (notedBy (model prog w) A env fun e s'=>R (.error e) s') s₁) (notedBy (model prog w) A env fun e s'=>R (.error e) s') s₁) (notedBy (model prog w) A env fun e s'=>R (.error e) s') s)
  (n:Nat) (h:I n s):
  codeAny (model prog w) A (.compLoop (.ListComp elt [⟨target,iter,ifs,0⟩] scope pos) 0 it acc env) R s:=by
 refine codeAny_loop rfl I (fun n s hI=>?_) n h
 show wpAny _ A ((compTurn (.ListComp elt [⟨target,iter,ifs,0⟩] scope pos) 0 it acc env).onRaise (fun x=>do noteFrame x env;theTreesLotGoes x)) _ _ s
 refine wpAny_noted ?_
 rw [compTurn_list]
 refine wpAny_bind (wpAny_standAt (wpAny_bind (wpAny_mono (turn n s hI) (fun r s₁ h₁=>?_) fun _ _ h'=>h')))
 cases r with
 | none=>exact wpAny_pure h₁
 | some v=>
  refine wpAny_bind (wpAny_mono h₁ (fun _ s₁ h₁=>wpAny_bind (wpAny_mono h₁ (fun _ s₂ h₂=>wpAny_bind (wpAny_mono h₂ (fun ok s₃ h₃=>?_) fun _ _ h'=>h')) fun _ _ h'=>h')) fun _ _ h'=>h')
  cases ok with
  | false=>exact wpAny_pure ⟨rfl,h₃⟩
  | true=>
   exact wpAny_bind (wpAny_bind (wpAny_mono h₃ (fun x s₄ h₄=>wpAny_bind (wpAny_mono h₄ (fun _ s₅ h₅=>wpAny_pure (wpAny_pure ⟨rfl,h₅⟩)) fun _ _ h'=>h')) fun _ _ h'=>h'))
end
section
variable {A:Around} {s:Shared} {P:Addr->Prop} {I:Addr} {tgt:Expr} {fp wr:List Addr} {ds:List PV} {S:Nat->Heap->Prop}
theorem Itr.turn' (it:Itr A P I tgt fp wr ds S) {K:Value->Shared->Prop} {E:Value->Shared->Prop} {G:Option Value->Shared->Prop} {i:Nat} {d:PV}
  (hG:∀ v s₁,G (some v) s₁=wpAny (model prog w) A (letOwnedTupleGo tgt (.ref I) v) (fun _ s₂=>K v s₂) E s₁) (hd:ds[i]?=some d) (hS:S i s.heap)
  (hQ:∀ v h' tk,S (i+1) h'->Rd h' P d v->(∀ b o,b∉wr->s.heap.get? b=some o->h'.get? b=some o)->K v (up s (h') (tk))):
  wpAny (model prog w) A (pyNext (.ref I)) G E s:=
 wpAny_mono (it.turn i s K E d hd hS hQ) (fun r s₁ q=>by obtain ⟨v,rfl,q⟩:=q;rw [hG];exact q) fun _ _ e=>e
theorem Itr.done' (it:Itr A P I tgt fp wr ds S) {K:Shared->Prop} {E:Value->Shared->Prop} {G:Option Value->Shared->Prop}
  (hG:∀ s₁,G none s₁=K s₁) (hS:S ds.length s.heap) (hQ:∀ h' tk,(∀ b o,b∉wr->s.heap.get? b=some o->h'.get? b=some o)->K (up s (h') (tk))):
  wpAny (model prog w) A (pyNext (.ref I)) G E s:=
 wpAny_mono (it.done s K E hS hQ) (fun r s₁ q=>by obtain ⟨rfl,q⟩:=q;rw [hG];exact q) fun _ _ e=>e
end
section
variable {f:Fix} {cf:Nat->List PV->Res PV} {own:Addr->Option Nat} {ρ:Slots} {s:Shared}
theorem tests_false {M:Model} {A:Around} {env:Env} {Q:Bool->Shared->Prop} {E:Value->Shared->Prop} (h:Q false s):∀ (es:List Expr),
  wpAny M A (forIn es false fun c r=>if r=true then do let ok <-isTrue c env (eval c env);pure (ForInStep.yield ok) else pure (ForInStep.yield r)) Q E s
 | []=>wpAny_pure h
 | e::es=>by
  rw [List.forIn_cons]
  simp only [Bool.false_eq_true,if_false]
  exact wpAny_bind (wpAny_pure (tests_false h es))
theorem tests_sound (F:FixOk f) {Q:Bool->Shared->Prop} {E:Value->Shared->Prop} {es:List Expr} {l:List (PE×Cl)} (h:EachOK f cf es l):∀ {own:Addr->Option Nat} {ρ:Slots} {s:Shared},St f.c own ρ s->evAnd cf ρ (l.map (·.1))≠.stuck ->
  (∀ b s',evAnd cf ρ (l.map (·.1))=.ok b->Grow f.c.A s s'->Q b s') ->
  wpAny (model prog w) f.c.A (forIn es true fun c r=>if r=true then do let ok <-isTrue c f.c.env (eval c f.c.env);pure (ForInStep.yield ok) else pure (ForInStep.yield r)) Q E s:=by
 induction h with
 | nil=>exact fun {own ρ s} x _ hQ=>wpAny_pure (hQ true s rfl (Grow.refl s))
 | @cons e p k es l _ h1 h2 ih=>
  intro own ρ s x hn hQ
  have eq:evAnd cf ρ (((p,k)::l).map (·.1))=(ev cf ρ p).bind fun x=>match x with | .bool b=>if b then evAnd cf ρ (l.map (·.1)) else .ok false | _=>.stuck:=by rw [List.map_cons,evAndC];try rfl
  rw [eq] at hn hQ
  rw [List.forIn_cons]
  refine wpAny_bind (wpAny_bind (h1.use F x hn (fun d hd=>notBool_stuck d hd) fun b s₁ e1 e2 hn1 g1 x1=>wpAny_pure ?_))
  rw [e2] at hQ
  cases b with
  | true=>exact ih x1 hn1 fun b s' e3 g2=>hQ b s' e3 (g1.trans g2)
  | false=>exact tests_false (hQ false s₁ rfl g1) es
inductive Chg (A:Around) (C D:Addr) (wr:List Addr) (s s':Shared):Prop where
 | mk (h':Heap) (tk:Nat) (e:s'=(up s (h') (tk))) (k:∀ b o,s.heap.get? b=some o->b≠C->b≠D->b∉wr->(b∉frs A->h'.get? b=some o)/\∃ sl,h'.get? b=some { o with slots:=sl })
theorem Chg.refl {A:Around} {C D:Addr} {wr:List Addr}:Chg A C D wr s s:=⟨s.heap,s.toks,rfl,fun b o h _ _ _=>⟨fun _=>h,o.slots,h⟩⟩
theorem Chg.trans {A:Around} {C D:Addr} {wr:List Addr} {s' s'':Shared} (x:Chg A C D wr s s') (y:Chg A C D wr s' s''):Chg A C D wr s s'':=by
 obtain ⟨h1,t1,rfl,k1⟩:=x
 obtain ⟨h2,t2,rfl,k2⟩:=y
 refine ⟨h2,t2,rfl,fun b o hb h3 h4 h5=>?_⟩
 obtain ⟨a1,sl,a2⟩:=k1 b o hb h3 h4 h5
 refine ⟨fun hf=>(k2 b o (a1 hf) h3 h4 h5).1 hf,?_⟩
 obtain ⟨_,sl',a3⟩:=k2 b _ a2 h3 h4 h5
 exact ⟨sl',a3⟩
theorem Chg.plain {A:Around} {C D:Addr} {wr:List Addr} {h':Heap} {tk:Nat} (k:∀ b o,b≠C->b≠D->b∉wr->s.heap.get? b=some o->h'.get? b=some o):Chg A C D wr s (up s (h') (tk)):=
 ⟨h',tk,rfl,fun b o hb h3 h4 h5=>⟨fun _=>k b o h3 h4 h5 hb,o.slots,k b o h3 h4 h5 hb⟩⟩
theorem Chg.grow {A:Around} {C D:Addr} {wr:List Addr} {s':Shared} (g:Grow A s s'):Chg A C D wr s s':=by
 obtain ⟨h',tk,rfl,k⟩:=g
 exact ⟨h',tk,rfl,fun b o hb _ _ _=>k b o hb⟩
theorem comp_loop (F:FixOk f) {elt target iter:Expr} {ifs:List Expr} {scope:Scope} {pos:Pos} {a:PE} {k:Cl} {cs:List (PE×Cl)} {tg:Tgt} {D:Addr}
  (hev:EvOK f cf elt a k) (hk:k.inner=true) (hcs:EachOK f cf ifs cs) (ht:TgtAt f.c (fun b=>b=f.c.env.locals) target tg) (hD:own D=some dum) (hDh:f.c.h0.get? D=none) (hDC:D≠f.c.env.locals)
  {P:Addr->Prop} {I:Addr} {fp wr:List Addr} {ds:List PV} {S:Nat->Heap->Prop} (it:Itr f.c.A P I target fp wr ds S) (hP:∀ a,P a->Fz f.c own a) (hfp:∀ b∈fp,b∉frs f.c.A/\b≠f.c.env.locals/\b≠D) (hwr:∀ b∈wr,f.c.h0.get? b=none/\own b=none)
  (hlim:ds.length<=lim) {tot:List PV} {R:Result->Shared->Prop} (x0:St f.c own ρ s) (hS:S 0 s.heap) {vs0:Array Value} (hl0:SeqAt s.heap "list" D vs0) (hv0:vs0.toList=[])
  (hgo:compGo (fun ρ'=>ev cf ρ' a) (fun ρ'=>evAnd cf ρ' (cs.map (·.1))) tg ds ρ=.ok tot)
  (hR:∀ s' vs',(∃ m,s'.heap.Ns f.c.env.locals m)->SeqAt s'.heap "list" D vs'->Rds s'.heap (Fz f.c own) tot vs'.toList->tot.length<=ds.length->Chg f.c.A f.c.env.locals D wr s s'->R (.ok .next) s'):
  codeAny (model prog w) f.c.A (.compLoop (.ListComp elt [⟨target,iter,ifs,0⟩] scope pos) 0 (.ref I) (.ref D) f.c.env) R s:=by
 refine compLoop_own (fun n s'=>∃ i ρ' acc rest vs,n=ds.length+1-i/\i<=ds.length/\acc.length<=i/\St f.c own ρ' s'/\S i s'.heap/\SeqAt s'.heap "list" D vs/\Rds s'.heap (Fz f.c own) acc vs.toList /\
  compGo (fun ρ'=>ev cf ρ' a) (fun ρ'=>evAnd cf ρ' (cs.map (·.1))) tg (ds.drop i) ρ'=.ok rest/\tot=acc++rest/\Chg f.c.A f.c.env.locals D wr s s') ?_ (ds.length+1)
  ⟨0,ρ,[],tot,vs0,rfl,Nat.zero_le _,Nat.le_refl _,x0,hS,hl0,hv0,by simpa using hgo,rfl,.refl⟩
 rintro n s1 ⟨i,ρ1,acc,rest,vs,rfl,hi,hai,x1,hS1,hl1,hr1,hg1,rfl,hc1⟩
 have hrec:=it.rec_ i s1.heap hS1
 have hlive:=it.live i s1.heap hS1
 have hDwr:D∉wr:=fun hm=>(hfp D (it.sub D hm)).2.2 rfl
 have loose:Loose f.c own s1 (fun b=>b∈wr):=fun b hb=>by
  obtain ⟨o,vs,ho,hd⟩:=hrec b hb
  exact ⟨(hwr b hb).1,o,ho,.inl ⟨vs,hd⟩⟩
 rcases Nat.lt_or_ge i ds.length with hlt | hge
 ·have hd:ds[i]?=some ds[i]:=List.getElem?_eq_getElem hlt
  rw [List.drop_eq_getElem_cons hlt] at hg1
  generalize ds[i]=d at hd hg1
  simp only [compGo] at hg1
  refine it.turn' (fun _ _=>rfl) hd hS1 ?_
  intro v h2 tk2 hS2 hrd2 hk2
  have x2:St f.c own ρ1 (up s1 (h2) (tk2)):=x1.change F.ok loose (fun b hb ho=>absurd (hwr b hb).2 ho) fun b o hb=>hk2 b o hb
  have c2:Chg f.c.A f.c.env.locals D wr s1 (up s1 (h2) (tk2)):=.plain fun b o _ _ hb=>hk2 b o hb
  have hl2:SeqAt h2 "list" D vs:=hl1.to fun o n ho _ _=>hk2 D o hDwr ho
  have hr2:Rds h2 (Fz f.c own) acc vs.toList:=Rds.to (loose.kp hk2 fun a h=>fz_dum h) acc hr1
  have hns:setTgt tg d ρ1≠.stuck:=fun q=>by rw [q] at hg1;cases hg1
  refine tgt_store (fun b hb=>.inl hb) F.ok F.ok.handled ht x2 (Rd.imp (fun a _ _ _ p=>hP a p) d hrd2) hns fun ρ3 s3 e3 x3 st3=>?_
  rw [e3] at hg1
  simp only [Res.bind] at hg1
  have kp3:Kp P h2 s3.heap:=st3.kp x2 (fun b hb=>.inl hb) fun a p=>fz_dum (hP a p)
  have c3:Chg f.c.A f.c.env.locals D wr s1 s3:=by
   obtain ⟨h',tk,rfl,k⟩:=st3
   exact c2.trans (Chg.plain (s:=(up s1 (h2) (tk2))) fun b o hb _ _ ho=>k b o ho hb)
  have hS3:S (i+1) s3.heap:=it.frame _ _ _ hS2 (fun b hb o ho=>by
   obtain ⟨h',tk,rfl,k⟩:=st3
   exact k b o ho (hfp b hb).2.1) kp3
  have hl3:SeqAt s3.heap "list" D vs:=hl2.to fun o n ho _ _=>by
   obtain ⟨h',tk,rfl,k⟩:=st3
   exact k D o ho hDC
  have hr3:Rds s3.heap (Fz f.c own) acc vs.toList:=Rds.to (st3.kp x2 (fun b hb=>.inl hb) fun a p=>fz_dum p) acc hr2
  have hcn:evAnd cf ρ3 (cs.map (·.1))≠.stuck:=fun q=>by rw [q] at hg1;cases hg1
  have onGrow:∀ {sa sb:Shared},St f.c own ρ3 sa->Grow f.c.A sa sb->S (i+1) sa.heap->SeqAt sa.heap "list" D vs->Rds sa.heap (Fz f.c own) acc vs.toList ->
    S (i+1) sb.heap/\SeqAt sb.heap "list" D vs/\Rds sb.heap (Fz f.c own) acc vs.toList:=fun {sa sb} xa g a1 a2 a3=>by
   have kp:Kp (Fz f.c own) sa.heap sb.heap:=xa.kp (fun a h=>fz_dum h) g.h
   refine ⟨it.frame _ _ _ a1 (fun b hb o ho=>(g.h b o ho).1 (hfp b hb).1) (fun b o ho hm=>?_),?_,Rds.to kp acc a3⟩
   ·exact xa.kp (P:=P) (fun a h=>fz_dum (hP a h)) g.h b o ho hm
   ·exact a2.to fun o n ho _ hq=>(g.h D o ho).1 fun hf=>by
     obtain ⟨_,m,o',es,ep,ho',hd',_⟩:=xa.fr D hf
     rw [ho] at ho';cases ho';rw [hq] at hd';cases hd'
  refine tests_sound F hcs x3 hcn fun b s4 e4 g4=>?_
  rw [e4] at hg1
  simp only [] at hg1
  have x4:=x3.grow F.ok g4
  obtain ⟨hS4,hl4,hr4⟩:=onGrow x3 g4 hS3 hl3 hr3
  have c4:=c3.trans (Chg.grow g4)
  cases b with
  | false=>
   simp only [Bool.false_eq_true,if_false] at hg1 ⊢
   exact ⟨ds.length+1-(i+1),by exact o327 hi,i+1,ρ3,acc,rest,vs,rfl,hlt,by exact o53 hai,x4,hS4,hl4,hr4,hg1,rfl,hc1.trans c4⟩
  | true=>
   simp only [if_true] at hg1 ⊢
   have hen:(ev cf ρ3 a).bind (fun x=>(compGo (fun ρ'=>ev cf ρ' a) (fun ρ'=>evAnd cf ρ' (cs.map (·.1))) tg (ds.drop (i+1)) ρ3).bind fun xs=>Res.ok (x::xs))≠.stuck:=fun q=>by
    have q2:=hg1.symm.trans q;cases q2
   refine hev.use F x4 hen fun y v5 s5 e5 e6 hn5 g5 x5 r5=>?_
   have hg2:=e6.symm.trans hg1
   cases hq:compGo (fun ρ'=>ev cf ρ' a) (fun ρ'=>evAnd cf ρ' (cs.map (·.1))) tg (ds.drop (i+1)) ρ3 with
   | stuck=>rw [hq] at hg2;cases hg2
   | ok xs=>
    rw [hq] at hg2
    cases hg2
    obtain ⟨hS5,hl5,hr5⟩:=onGrow x4 g5 hS4 hl4 hr4
    obtain ⟨n5,hl5'⟩:=id hl5
    have hsz:vs.size<=sizeLine:=by
     have:=hr5.length
     rw [Array.length_toList] at this
     have:vs.size<=lim:=by exact o328 hlim hi hai this
     exact Nat.le_trans this (by decide)
    refine wpAny_list_append_plain ⟨n5,hl5'⟩ (fun h6 hl6 hs6=>?_) hsz
    obtain ⟨n6,hl6'⟩:=id hl6
    have looseD:Loose f.c own s5 (fun b=>b=D):=fun b hb=>by subst hb;exact ⟨hDh,_,hl5',.inr (.inl ⟨hD,_,_,rfl,rfl⟩)⟩
    have kD:∀ b o,¬ b=D->s5.heap.get? b=some o->h6.get? b=some o:=fun b o hb ho=>(hs6.2 b hb).trans ho
    have x6:St f.c own ρ3 (up s5 (h6) (s5.toks)):=x5.change F.ok looseD (fun b hb _=>⟨_,by subst hb;exact hl6'⟩) kD
    have kp6:Kp (Fz f.c own) s5.heap h6:=looseD.kp kD fun a h=>fz_dum h
    refine ⟨ds.length+1-(i+1),by exact o327 hi,i+1,ρ3,acc++[y],xs,vs.push v5,rfl,hlt,by simp;exact o55 hai,x6,?_,⟨n6,hl6'⟩,?_,hq,by simp,?_⟩
    ·exact it.frame _ _ _ hS5 (fun b hb o ho=>kD b o (hfp b hb).2.2 ho) (fun b o ho hm=>looseD.kp kD (P:=P) (fun a h=>fz_dum (hP a h)) b o ho hm)
    ·rw [Array.toList_push]
     exact Rds.append (Rds.to kp6 acc hr5) (Rds.one (Rd.to kp6 y (r5.rd x4 hk)))
    ·exact hc1.trans (c4.trans ((Chg.grow g5).trans (Chg.plain fun b o _ hb _ ho=>kD b o hb ho)))
 ·have hi':i=ds.length:=by exact o157 hi hge
  subst hi'
  rw [List.drop_length] at hg1
  simp only [compGo] at hg1
  cases hg1
  refine it.done' (fun _=>rfl) hS1 fun h2 tk2 hk2=>?_
  have x2:St f.c own ρ1 (up s1 (h2) (tk2)):=x1.change F.ok loose (fun b hb ho=>absurd (hwr b hb).2 ho) fun b o hb=>hk2 b o hb
  rw [List.append_nil] at hR
  exact hR _ vs x2.loc.2 (hl1.to fun o n ho _ _=>hk2 D o hDwr ho) (Rds.to (loose.kp hk2 fun a h=>fz_dum h) acc hr1) (by exact o55 hai) (hc1.trans (.plain fun b o _ _ hb=>hk2 b o hb))
end
end Mine.Internal
end
section
namespace Mine.Internal
open PySem PySem.Spec PyProof.Rows
theorem clr_get:∀ {t:Tgt} {ρ:Slots} {j:Nat} {d:PV},(clr t ρ)[j]?=some (some d)->ρ[j]?=some (some d)/\(match t with | .one i=>j≠i | .many is=>j∉is):=by
 intro t ρ j d h
 have one:∀ {ρ:Slots} {i:Nat},(ρ.set i none)[j]?=some (some d)->ρ[j]?=some (some d)/\j≠i:=fun {ρ i} h=>by
  rw [List.getElem?_set] at h
  split at h
  ·split at h<;>cases h
  ·rename_i q;exact ⟨h,fun z=>q z.symm⟩
 cases t with
 | one i=>exact one h
 | many is=>
  simp only [clr] at h ⊢
  induction is generalizing ρ with
  | nil=>exact ⟨h,by simp⟩
  | cons i is ih=>
   simp only [List.foldl_cons] at h
   obtain ⟨h1,h2⟩:=ih h
   obtain ⟨h3,h4⟩:=one h1
   exact ⟨h3,by simp [h2,h4]⟩
noncomputable def compTgt (t:TC) (one:Bool) (xs:List Str):Tgt:=if one then .one t.cbase else .many ((List.range xs.length).map (t.cbase+·))
theorem nameE_some {e:Expr} {x:Str} (h:nameE e=some x):∃ p,e=.Name x p:=by
 cases e with
 | Name y p=>cases h;exact ⟨p,rfl⟩
 | _=>exact noS h
theorem seqO_cons {α:Type} {a:Option α} {r:List (Option α)} {xs:List α} (h:seqO (a::r)=some xs):∃ x ys,a=some x/\seqO r=some ys/\xs=x::ys:=by
 cases a with
 | none=>cases h
 | some x=>
  obtain ⟨ys,h1,h2⟩:=Option.map_eq_some_iff.1 (show (seqO r).map (x::·)=some xs from h)
  exact ⟨x,ys,rfl,h1,h2.symm⟩
theorem seqO_names:∀ {es:List Expr} {xs:List Str},seqO (es.map nameE)=some xs->∃ ps:List (Str×Pos),es=ps.map (fun p=>.Name p.1 p.2)/\xs=ps.map (·.1)
 | [],xs,h=>by cases h;exact ⟨[],rfl,rfl⟩
 | e::es,xs,h=>by
  obtain ⟨x,ys,h1,q,rfl⟩:=seqO_cons h
  obtain ⟨p,rfl⟩:=nameE_some h1
  obtain ⟨ps,h1,h2⟩:=seqO_names q
  exact ⟨(x,p)::ps,by rw [h1];rfl,by rw [h2];rfl⟩
theorem allAt_range {c:Cx} {N:Addr->Prop} {b:Nat}:∀ (ps:List (Str×Pos)) (k:Nat),(∀ j p,ps[j]?=some p->(p.1,b+(k+j))∈c.names/\b+(k+j)∉c.mv/\∀ a,PlaceOf c p.1 a->N a)->AllAt c N ps ((List.range' k ps.length).map (b+·))
 | [],k,_=>trivial
 | p::ps,k,h=>by
  refine ⟨h 0 p rfl,?_⟩
  refine allAt_range ps (k+1) fun j q hq=>?_
  have:=h (j+1) q (by simpa using hq)
  rwa [show k+(j+1)=k+1+j by exact o330] at this
section
variable {f:Fix} {cf:Nat->List PV->Res PV} {own:Addr->Option Nat} {ρ:Slots} {s:Shared}
theorem comp_tgt (F:FixOk f) {scope:Scope} {xs:List Str} {cl:List (Str×Addr)} {C:Addr} {target:Expr} {one:Bool} (ok:CompOk f.t scope.names xs) (h:tgtNames target=some (one,xs)):
  TgtAt (compFix f scope xs cl C).c (fun b=>b=C) target (compTgt f.t one xs):=by
 have base:∀ j x,xs[j]?=some x->(x,f.t.cbase+j)∈compSlots f.t scope.names xs/\f.t.cbase+j∉f.c.mv/\∀ a,PlaceOf (compFix f scope xs cl C).c x a->a=C:=fun j x hx=>by
  refine ⟨?_,fun hm=>?_,fun a ha=>?_⟩
  ·refine List.mem_append.mpr (.inl (List.mem_map.mpr ⟨(x,j),?_,rfl⟩))
   obtain ⟨h1,h2⟩:=List.getElem?_eq_some_iff.mp hx
   rw [List.mem_zipIdx_iff_getElem?];simpa using hx
  ·have:=F.mvb _ (F.mv ▸ hm);exact (o329 this).elim
  ·rcases ha with ⟨_,e⟩ | ⟨e,_⟩
   ·exact e
   ·have h1:(compFix f scope xs cl C).c.env.kindOf x=some .local:=lookup_relabel_local (ok.each x (List.mem_of_getElem? hx)).1
    rw [h1] at e;cases e
 cases target with
 | Name x pos=>
  cases h
  have:=base 0 x rfl
  exact .one this.1 this.2.1 this.2.2
 | Tuple es k pos=>
  simp only [tgtNames] at h
  cases q:seqO (es.map nameE) with
  | none=>rw [q] at h;cases h
  | some ys=>
   rw [q] at h
   cases h
   obtain ⟨ps,rfl,rfl⟩:=seqO_names q
   unfold compTgt
   rw [if_neg (by simp),List.range_eq_range',List.length_map]
   refine .many (allAt_range ps 0 fun j p hp=>?_)
   rw [Nat.zero_add]
   exact base j p.1 (by simp [hp])
 | _=>cases h
theorem compTgt_out {t:TC} {one:Bool} {xs:List Str} {target:Expr} (h:tgtNames target=some (one,xs)) {j:Nat} (hj:t.cbase<=j) (hj':j < t.cbase+xs.length):¬ (match compTgt t one xs with | .one i=>j≠i | .many is=>j∉is):=by
 cases target with
 | Name x pos=>cases h;simp [compTgt];simp at hj';exact o54 hj hj'
 | Tuple es k pos=>
  simp only [tgtNames] at h
  cases q:seqO (es.map nameE) with
  | none=>rw [q] at h;cases h
  | some ys=>
   rw [q] at h;cases h
   simp only [compTgt,Bool.false_eq_true,if_false,List.mem_map,List.mem_range]
   exact fun q=>q ⟨j-t.cbase,by exact o331 hj hj',by exact o21 hj⟩
 | _=>cases h
theorem comp_st (F:FixOk f) {scope:Scope} {xs:List Str} {cl:List (Str×Addr)} {C D:Addr} {one:Bool} {target:Expr} (htn:tgtNames target=some (one,xs)) (ok:CompOk f.t scope.names xs) (hcl:Clo f.c.env scope.names cl) (x:St f.c own ρ s)
  {h':Heap} {tk:Nat} (hk:∀ b o,s.heap.get? b=some o->h'.get? b=some o) (hC:s.heap.get? C=none) (hD:s.heap.get? D=none) {m:Str->Option Value} (hn:h'.Ns C m) (hDo:∃ o,h'.get? D=some o):
  St (compFix f scope xs cl C).c (fun a=>if a=C\/a=D then some dum else own a) (clr (compTgt f.t one xs) ρ) (up s (h') (tk)):=by
 have up:∀ a i,own a=some i->(if a=C\/a=D then some dum else own a)=some i\/s.heap.get? a=none:=fun a i h=>by
  by_cases e:a=C\/a=D
  ·right;rcases e with rfl | rfl<;>assumption
  ·left;rw [if_neg e];exact h
 have down:∀ {a o},s.heap.get? a=some o->¬ (a=C\/a=D):=fun {a o} h q=>by rcases q with rfl | rfl<;>simp_all
 refine ⟨fun b o hb=>?_,fun a ha=>?_,⟨?_,m,hn⟩,x.newBase hC,fun n a h=>?_,fun n a h=>?_,fun a h=>?_,fun a i h hi=>?_,fun y i d hm hd=>?_⟩
 ·obtain ⟨h1,sl,h2⟩:=x.base b o hb
  exact ⟨fun hf=>hk _ _ (h1 hf),sl,hk _ _ h2⟩
 ·obtain ⟨h1,m',o,es,ep,ho,r⟩:=x.fr a ha
  exact ⟨by rw [if_neg (down ho)];exact h1,m',o,es,ep,hk _ _ ho,r⟩
 ·show (if C=C\/C=D then some dum else own C)=some dum
  simp
 ·obtain ⟨v,o,ho,hd⟩:=x.cell n a (hcl.to n a h)
  exact ⟨v,o,hk _ _ ho,hd⟩
 ·exact x.cellNew n a (hcl.to n a h)
 ·by_cases e:a=C\/a=D
  ·rcases e with rfl | rfl
   ·obtain ⟨o,_,_,ho,_⟩:=hn;exact ⟨o,ho⟩
   ·exact hDo
  ·rw [if_neg e] at h
   obtain ⟨o,ho⟩:=x.ownIn a h
   exact ⟨o,hk _ _ ho⟩
 ·split at h
  ·cases h;exact absurd hi F.ok.dumNot
  ·exact x.ownNew a i h hi
 ·obtain ⟨hd1,hd2⟩:=clr_get hd
  rcases compSlots_cell hm with ⟨_,h1,h2⟩ | ⟨h1,h2,h3⟩
  ·exact absurd hd2 (compTgt_out htn h1 h2)
  ·obtain ⟨v,hv,hr⟩:=x.vars y i d (F.names ▸ h1) hd1
   have hne:∀ p∈scope.names,p.2≠.cell:=fun p hp q=>by rcases ok.kinds p hp with h | h | h<;>simp [q] at h
   obtain ⟨h4,h5⟩:=compNames_cell h3 hne
   have hko:f.c.env.kindOf y=some .cell:=by show f.c.env.scope.names.lookup y=_;rw [F.scope];exact h5
   refine ⟨v,?_,?_⟩
   ·rcases hv with ⟨k1,_⟩ | ⟨k1,a,hl,o,ho,hq⟩
    ·rw [hko] at k1;cases k1
    ·obtain ⟨a',ha'⟩:=hcl.has y h4
     have:=hcl.to y a' ha'
     rw [hl] at this;cases this
     refine .inr ?_ a ha' ⟨o,hk _ _ ho,hq⟩
     show (relabel scope f.c.env).names.lookup y=_
     rw [relabel_names F];exact h3
   ·have kp:∀ {P:Addr->Prop},Kp P s.heap h':=fun b o ho _=>hk b o ho
    unfold VRd at hr ⊢
    split at hr
    ·rename_i hi
     rw [if_pos (show i∈(compFix f scope xs cl C).c.mv from hi)]
     refine RdO.to kp kp (RdO.imp (fun a o ho _ p=>?_) (fun a o ho _ p=>⟨p.1,?_⟩) hr)
     ·simp only [if_neg (down ho)];exact p
     ·simp only [if_neg (down ho)];exact p.2
    ·rename_i hi
     rw [if_neg (show i∉(compFix f scope xs cl C).c.mv from hi)]
     refine Rd.to kp d (Rd.imp (fun a o ho _ p=>⟨p.1,?_⟩) d hr)
     simp only [if_neg (down ho)];exact p.2
theorem comp_block (F:FixOk f) {elt target iter:Expr} {ifs:List Expr} {scope:Scope} {pos:Pos} {xs:List Str} {cl:List (Str×Addr)} {one:Bool} (hkd:scope.kind=.function) (htn:tgtNames target=some (one,xs)) (ok:CompOk f.t scope.names xs) (hcl:Clo f.c.env scope.names cl)
  {a:PE} {k:Cl} {cs:List (PE×Cl)} (hk:k.inner=true) (hev:∀ C,EvOK (compFix f scope xs cl C) cf elt a k) (hcs:∀ C,EachOK (compFix f scope xs cl C) cf ifs cs)
  (x:St f.c own ρ s) {I:Addr} {fp wr:List Addr} {ds:List PV} {S:Nat->Heap->Prop} (it:Itr f.c.A (fun a=>Fz f.c own a/\∃ o,s.heap.get? a=some o) I target fp wr ds S) (hS:S 0 s.heap) (hlim:ds.length<=lim)
  (hfp:∀ b∈fp,b∉frs f.c.A/\b≠f.c.env.locals) (hwr:∀ b∈wr,f.c.h0.get? b=none/\own b=none) {tot:List PV}
  (hgo:compGo (fun ρ'=>ev cf ρ' a) (fun ρ'=>evAnd cf ρ' (cs.map (·.1))) (compTgt f.t one xs) ds (clr (compTgt f.t one xs) ρ)=.ok tot) {E:Value->Shared->Prop} {RR:Value->Addr->Result->Shared->Prop}
  (hR:∀ C D s' vs',s.heap.get? C=none->s.heap.get? D=none->D≠C->(∃ m,s'.heap.Ns C m)->SeqAt s'.heap "list" D vs'->Rds s'.heap (fun b=>Fz f.c own b/\b≠C/\b≠D) tot vs'.toList->tot.length<=lim->Chg f.c.A C D wr s s'->RR (.ref D) C (.ok .next) s'):
  wpAny (model prog w) f.c.A (newList []) (fun acc s₃=>wpAny (model prog w) f.c.A (newFunctionEnv scope f.c.env.globals cl [] f.c.env.qual none .none (some f.c.env)) (fun cenv s₄=>
   codeAny (model prog w) f.c.A (.compStart (.ListComp elt [⟨target,iter,ifs,0⟩] scope pos) 0 (.ref I) acc { cenv with scope:=relabel scope f.c.env }) (RR acc cenv.locals) s₄) E s₃) E s:=by
 have hcell:∀ y∈scope.names,y.2≠.cell:=fun p hp q=>by rcases ok.kinds p hp with h | h | h<;>simp [q] at h
 refine wpAny_newObj_type (wpAny_newFunctionEnv hcell (by intro y hy;simp at hy) (fun h₁ hns₁ hsb₁=>?_) hkd)
 dsimp only at hns₁ hsb₁ ⊢
 generalize hH2:s.heap.push { cls:=.type "list",dict:=none,data:=.seq ([]:List Value).toArray }=H2 at hns₁ hsb₁ ⊢
 have hC:H2.objs.size=s.heap.objs.size+1:=by rw [<-hH2,Heap.size_push]
 have hDC:s.heap.objs.size≠H2.objs.size:=by rw [hC];exact Nat.ne_of_lt (Nat.lt_succ_self _)
 have below:∀ b,b < s.heap.objs.size->b≠H2.objs.size/\b≠s.heap.objs.size:=fun b hb=>⟨by rw [hC];exact Nat.ne_of_lt (Nat.lt_succ_of_lt hb),Nat.ne_of_lt hb⟩
 have old:∀ b o,s.heap.get? b=some o->h₁.get? b=some o:=fun b o e=>hsb₁.extBut b o (below b (Heap.lt_size e)).1 (Heap.get?_push_of_some _ (hH2 ▸ Heap.get?_push_of_some _ e))
 have hacc:SeqAt h₁ "list" s.heap.objs.size #[]:=⟨0,hsb₁.extBut _ _ hDC (Heap.get?_push_of_some _ (hH2 ▸ Heap.get?_push_size _ rfl))⟩
 have fresh:∀ a,s.heap.objs.size<=a->s.heap.get? a=none:=fun a ha=>by
  cases e:s.heap.get? a with
  | none=>rfl
  | some o'=>exact absurd (Heap.lt_size e) (Nat.not_lt.mpr ha)
 have newD:=fresh s.heap.objs.size (Nat.le_refl _)
 have newC:=fresh H2.objs.size (by rw [hC];exact Nat.le_succ _)
 generalize H2.objs.size=C at *
 generalize s.heap.objs.size=D at *
 have Fx:=compFix_ok F (C:=C) hkd ok hcl
 have x1:=comp_st F (C:=C) (D:=D) (tk:=s.toks+([]:List (Str×Value)).length) htn ok hcl x old newC newD hns₁ (let ⟨n,q⟩:=hacc;⟨_,q⟩)
 have hS1:S 0 h₁:=it.frame _ _ _ hS (fun b _ o e=>old b o e) fun b o e _=>old b o e
 have live:=it.live 0 s.heap hS
 have nfp:∀ b∈fp,b≠C/\b≠D:=fun b hb=>by
  obtain ⟨o,ho,_⟩:=live b hb
  exact ⟨fun e=>by (rw [e,newC] at ho;cases ho),fun e=>by (rw [e,newD] at ho;cases ho)⟩
 have loop:∀ s₃:Shared,s₃={ s with heap:=h₁,toks:=s.toks+([]:List (Str×Value)).length } ->
   codeAny (model prog w) f.c.A (.compLoop (.ListComp elt [⟨target,iter,ifs,0⟩] scope pos) 0 (.ref I) (.ref D) (compEnvC scope cl C f.c.env)) (RR (.ref D) C) s₃:=by
  rintro s₃ rfl
  refine comp_loop (f:=compFix f scope xs cl C) (own:=fun a=>if a=C\/a=D then some dum else own a) (D:=D) Fx (hev C) hk (hcs C) (comp_tgt F ok htn) (by simp) (x.newBase newD) hDC it (fun a p=>⟨p.1.1,?_⟩) (fun b hb=>⟨(hfp b hb).1,nfp b hb⟩) (fun b hb=>⟨(hwr b hb).1,?_⟩) hlim x1 hS1 hacc rfl hgo fun s' vs' hns hl hr hlen hch=>?_
  ·obtain ⟨o,ho⟩:=p.2
   have:¬ (a=C\/a=D):=fun q=>by rcases q with rfl | rfl<;>simp_all
   simp only [if_neg this];exact p.1.2
  ·have:=nfp b (it.sub b hb)
   simp only [if_neg (not_or.mpr this)];exact (hwr b hb).2
  ·refine hR C D s' vs' newC newD hDC hns hl (Rds.imp (fun b o ho _ p=>?_) tot hr) (Nat.le_trans hlen hlim) ?_
   ·have:¬ (b=C\/b=D):=fun q=>by have:=p.2;simp only [if_pos q] at this;cases this
    refine ⟨⟨p.1,?_⟩,fun e=>this (.inl e),fun e=>this (.inr e)⟩
    have:=p.2;simp only [if_neg ‹¬ (b=C\/b=D)›] at this;exact this
   ·exact (Chg.plain fun b o _ _ _ ho=>old b o ho).trans hch
 exact codeAny_compStart_list (loop _ rfl) (it.self 0 _ _ _ hS1 (loop _ rfl))
end
end Mine.Internal
end
section
namespace Mine.Internal
open PySem PySem.Spec PyProof.Rows
section
variable {c:Cx} {own:Addr->Option Nat} {ρ:Slots} {s s':Shared}
theorem Mine1.imp {P P':Addr->Prop} {a:Addr} {o:Obj} (x:Mine1 P a o) (k:P a->P' a):Mine1 P' a o:=by
 rcases x with ⟨vs,n,h1,h2⟩ | ⟨es,n,h1,h2⟩ | ⟨h1,h2⟩
 ·exact .inl ⟨vs,n,h1,h2.imp id fun h=>⟨k h.1,h.2⟩⟩
 ·exact .inr (.inl ⟨es,n,h1,k h2⟩)
 ·exact .inr (.inr ⟨h1,k h2⟩)
theorem St.claim (ok:CxOk c) (x:St c own ρ s) (g:Grow c.A s s') {own':Addr->Option Nat} (hs:∀ a o,s.heap.get? a=some o->own' a=own a) (hin:∀ a,own' a≠none->∃ o,s'.heap.get? a=some o):St c own' ρ s' where
 base:=x.base.trans g.h
 fr:=fun a ha=>by
  obtain ⟨h1,m,hm⟩:=x.fr a ha
  obtain ⟨o,_,_,ho,_⟩:=id hm
  exact ⟨(hs a o ho).trans h1,m,g.h.ns hm⟩
 loc:=by
  obtain ⟨h1,m,hm⟩:=x.loc
  obtain ⟨o,_,_,ho,_⟩:=id hm
  exact ⟨(hs _ o ho).trans h1,m,g.h.ns hm⟩
 locNew:=x.locNew
 cell:=fun n a h=>let ⟨v,hv⟩:=x.cell n a h;⟨v,g.h.cell hv⟩
 cellNew:=x.cellNew
 ownIn:=hin
 ownNew:=fun a i h hi=>by
  cases q:s.heap.get? a with
  | none=>exact x.newBase q
  | some o=>exact x.ownNew a i ((hs a o q).symm.trans h) hi
 vars:=fun y i d hm hd=>by
  obtain ⟨v,hv,hr⟩:=x.vars y i d hm hd
  refine ⟨v,hv.grow g.h,?_⟩
  have h2:VRd s'.heap c own i d v:=hr.kp (x.kp (fun a h=>fz_dum h) g.h) fun hi=>x.kp (fun a h e=>by rw [h] at e;cases e;exact ok.dumNot hi) g.h
  unfold VRd at hr h2 ⊢
  split
  ·rename_i hi
   rw [if_pos hi] at hr
   refine RdO.to (fun a o ho hm=>?_) (fun a o ho hm=>?_) (RdO.imp (O':=fun a=>own' a=some i) (P':=Fz c own') (fun a o ho _ p=>(hs a o ho).trans p) (fun a o ho _ p=>⟨p.1,(hs a o ho).trans p.2⟩) hr)
   ·refine x.kp (P:=Fz c own) (fun a h=>fz_dum h) g.h a o ho ?_
    exact hm.imp fun h=>⟨h.1,(hs a o ho).symm.trans h.2⟩
   ·refine x.kp (P:=fun a=>own a=some i) (fun a h e=>by rw [h] at e;cases e;exact ok.dumNot hi) g.h a o ho ?_
    exact hm.imp fun h=>(hs a o ho).symm.trans h
  ·rename_i hi
   rw [if_neg hi] at hr
   refine Rd.to (fun a o ho hm=>?_) d (Rd.imp (P':=Fz c own') (fun a o ho _ p=>⟨p.1,(hs a o ho).trans p.2⟩) d hr)
   refine x.kp (P:=Fz c own) (fun a h=>fz_dum h) g.h a o ho ?_
   exact hm.imp fun h=>⟨h.1,(hs a o ho).symm.trans h.2⟩
end
section
variable {f:Fix} {cf:Nat->List PV->Res PV} {own:Addr->Option Nat} {ρ:Slots} {s:Shared}
theorem noExc_bind {α β:Type} {r:Res α} {g:α->Res β} (h:(noExc r).bind g≠.stuck):∃ a,r=.ok a:=by
 cases r with
 | ok a=>exact ⟨a,rfl⟩
 | stuck=>exact absurd rfl h
theorem comp_run (F:FixOk f) {elt target iter:Expr} {ifs:List Expr} {scope:Scope} {pos p0:Pos} {xs:List Str} {one:Bool} (hkd:scope.kind=.function) (htn:tgtNames target=some (one,xs)) (ok:CompOk f.t scope.names xs)
  {a:PE} {k cl0:Cl} {kk:ItK} {src:List PE} {cs:List (PE×Cl)} (hk:k.inner=true) (hev:∀ cl C,Clo f.c.env scope.names cl->EvOK (compFix f scope xs cl C) cf elt a k) (hcs:∀ cl C,Clo f.c.env scope.names cl->EachOK (compFix f scope xs cl C) cf ifs cs)
  (hit:ItOK f cf (!one) iter kk src cl0) (x:St f.c own ρ s) (hn:ev cf ρ (.comp a (compTgt f.t one xs) kk src (cs.map (·.1)))≠.stuck)
  {use:Option (Value->Sem Unit)} {Q:Value->Shared->Prop} {E:Value->Shared->Prop}
  (hQ:∀ C D s' l vs,ev cf ρ (.comp a (compTgt f.t one xs) kk src (cs.map (·.1)))=.ok (.list l)->s.heap.get? C=none->s.heap.get? D=none->D≠C->(∃ m,s'.heap.Ns C m)->SeqAt s'.heap "list" D vs->l.length<=lim ->
   Rds s'.heap (fun b=>Fz f.c own b/\b≠C/\b≠D) l vs.toList->Grow f.c.A s s'->St f.c own ρ s'->compPost (model prog w) f.c.A E use Q (.ref D) C (.ok .next) s'):
  wpAny (model prog w) f.c.A (comprehension (.ListComp elt [⟨target,iter,ifs,0⟩] scope pos) scope f.c.env p0 (newList []) false (eval iter f.c.env) use) Q E s:=by
 have hfree:∀ p∈scope.names,p.2=.free->∃ a,f.c.env.cells.lookup p.1=some a:=fun p hp hq=>by
  rcases ok.kinds p hp with h | h | ⟨_,h,i,hi⟩
  ·rw [hq] at h;cases h
  ·rw [hq] at h;cases h
  ·rcases F.ok.kinds p.1 i (F.names ▸ hi) with h1 | h1
   ·have:f.c.env.kindOf p.1=some .cell:=by show f.c.env.scope.names.lookup p.1=_;rw [F.scope];exact h
    rw [this] at h1;cases h1
   ·exact h1.2
 have hclo:=clo_ok (scope:=scope) (env:=f.c.env) ok.keys F.ok.apart hfree
 have ht:tgtOk target=true:=by
  cases target with
  | Name _ _=>rfl
  | Tuple _ _ _=>rfl
  | _=>cases htn
 have htup:(!one)=true->∃ elts k pos,target=.Tuple elts k pos:=fun h=>by
  cases target with
  | Name _ _=>cases htn;cases h
  | Tuple _ _ _=>exact ⟨_,_,_,rfl⟩
  | _=>cases htn
 simp only [vE22] at hn hQ
 have asc:((evs cf ρ src).bind fun xs'=>(items kk xs').bind fun ds=>(noExc (compGo (fun ρ'=>ev cf ρ' a) (fun ρ'=>evAnd cf ρ' (cs.map (·.1))) (compTgt f.t one xs) ds (clr (compTgt f.t one xs) ρ))).bind mkL) =
   ((evs cf ρ src).bind (items kk)).bind fun ds=>(noExc (compGo (fun ρ'=>ev cf ρ' a) (fun ρ'=>evAnd cf ρ' (cs.map (·.1))) (compTgt f.t one xs) ds (clr (compTgt f.t one xs) ρ))).bind mkL:=by cases evs cf ρ src<;>rfl
 rw [asc] at hn hQ
 have hni:((evs cf ρ src).bind (items kk))≠.stuck:=fun q=>hn (by rw [q];rfl)
 refine wpAny_comprehension_free (g:=⟨target,iter,ifs,0⟩) (gs:=[]) rfl (hit.1 f.c.env) (clo_eq hfree) hkd (fun y hy hl=>lookup_of_mem ok.keys (by rw [<-hl];exact hy)) ?_
 refine wpAny_mono (hit.2 htup ht x hni) (fun xv s₁ q=>wpAny_mono q (fun it s₂ q=>?_) fun _ _ q=>q.elim) fun _ _ q=>q.elim
 obtain ⟨ds,I,fp,wr,S,e1,rfl,itr,hS0,g,hwr,_,hlim,hfp⟩:=q
 rw [e1] at hn hQ
 rw [bindK] at hn
 obtain ⟨tot,htot⟩:=noExc_bind hn
 have x2:=x.grow F.ok g
 refine comp_block (RR:=fun acc C=>compPost (model prog w) f.c.A E use Q acc C) F hkd htn ok hclo hk (fun C=>hev _ C hclo) (fun C=>hcs _ C hclo) x2 itr hS0 hlim hfp (fun b hb=>⟨x.newBase (hwr b hb),x.newOwn (hwr b hb)⟩) htot fun C D s' vs' hC hD hDC hns hl hr hlen hch=>?_
 have g2:Grow f.c.A s s':=by
  obtain ⟨h1,t1,rfl,k1⟩:=g
  obtain ⟨h2,t2,rfl,k2⟩:=hch
  refine ⟨h2,t2,rfl,fun b o hb=>?_⟩
  obtain ⟨a1,sl,a2⟩:=k1 b o hb
  have hbC:b≠C:=fun e=>by rw [e] at hb;rw [GrowH.none k1 (show h1.get? C=none from hC)] at hb;cases hb
  have hbD:b≠D:=fun e=>by rw [e] at hb;rw [GrowH.none k1 (show h1.get? D=none from hD)] at hb;cases hb
  have hbw:b∉wr:=fun e=>by rw [hwr b e] at hb;cases hb
  obtain ⟨_,sl',a3⟩:=k2 b _ a2 hbC hbD hbw
  exact ⟨fun hf=>(k2 b _ (a1 hf) hbC hbD hbw).1 hf,sl',a3⟩
 refine hQ C D s' tot vs' ?_ (g.h.none hC) (g.h.none hD) hDC hns hl hlen hr g2 (x.grow F.ok g2)
 show (noExc (compGo _ _ _ ds _)).bind mkL=_
 rw [htot]
 show mkL tot=_
 unfold mkL
 rw [if_pos hlen]
theorem comp_sound (F:FixOk f) {elt target iter:Expr} {ifs:List Expr} {scope:Scope} {pos:Pos} {xs:List Str} {one:Bool} (hkd:scope.kind=.function) (htn:tgtNames target=some (one,xs)) (ok:CompOk f.t scope.names xs)
  {a:PE} {k cl0:Cl} {kk:ItK} {src:List PE} {cs:List (PE×Cl)} (hk:k.inner=true) (hev:∀ cl C,Clo f.c.env scope.names cl->EvOK (compFix f scope xs cl C) cf elt a k) (hcs:∀ cl C,Clo f.c.env scope.names cl->EachOK (compFix f scope xs cl C) cf ifs cs)
  (hit:ItOK f cf (!one) iter kk src cl0):
  EvOK f cf (.ListComp elt [⟨target,iter,ifs,0⟩] scope pos) (.comp a (compTgt f.t one xs) kk src (cs.map (·.1))) .fresh:=by
 intro own ρ s x hn
 rw [eval_ListComp]
 refine comp_run (use:=none) F hkd htn ok hk hev hcs hit x hn fun C D s' l vs e1 hC hD hDC hns hl hlen hr g x'=>?_
 obtain ⟨m,hm⟩:=hns
 refine ⟨m,hm,fun h' hs=>⟨.list l,e1,?_,?_⟩⟩
 ·obtain ⟨h1,t1,rfl,k1⟩:=g
  refine ⟨h',t1,rfl,fun b o hb=>?_⟩
  have hbC:b≠C:=fun e=>by rw [e,hC] at hb;cases hb
  obtain ⟨a1,sl,a2⟩:=k1 b o hb
  exact ⟨fun hf=>(hs.2 b hbC).trans (a1 hf),sl,(hs.2 b hbC).trans a2⟩
 ·obtain ⟨o,es,ep,ho,hd,_⟩:=hm
  have kp:Kp (fun b=>Fz f.c own b/\b≠C/\b≠D) s'.heap h':=fun b o' ho' hm'=>by
   have:b≠C:=fun e=>by
    rw [e,ho] at ho';cases ho'
    rcases hm' with ⟨_,_,hd',_⟩ | ⟨_,_,_,hp⟩ | ⟨_,hp⟩
    ·rw [hd] at hd';cases hd'
    ·exact hp.2.1 e
    ·exact hp.2.1 e
   exact (hs.2 b this).trans ho'
  exact ⟨D,vs,rfl,hD,hl.to (fun o n ho _ _=>(hs.2 D hDC).trans ho),hlen,Rds.imp (fun b o ho _ p=>⟨p.1,fun q=>by injection q with q;exact p.2.2 q.symm⟩) l (Rds.to kp l hr)⟩
end
end Mine.Internal
end
section
namespace Mine.Internal
open PySem PySem.Spec PyProof.Rows
section
variable {cf:Nat->List PV->Res PV}
theorem ite_test {f:Fix} (F:FixOk f) {c a b:Expr} {pos:Pos} {pc pa pb:PE} (hc:TrOK f cf c pc) (ha:TrOK f cf a pa) (hb:TrOK f cf b pb):TrOK f cf (.IfExp c a b pos) (.ite pc pa pb):=by
 intro own ρ s x hn hbo
 show wpAny _ _ (do if <-isTrue c f.c.env (eval c f.c.env) then isTrue a f.c.env (eval a f.c.env) else isTrue b f.c.env (eval b f.c.env)) _ _ s
 simp only [vE13] at hn hbo ⊢
 refine wpAny_bind (hc.use F x hn (fun d hd=>by cases d<;>first | rfl | exact absurd rfl (hd _)) fun t s₁ e1 e2 hn1 g1 x1=>?_)
 rw [e2] at hbo ⊢
 cases t with
 | true=>
  simp only [if_true] at hn1 hbo ⊢
  refine wpAny_mono (ha own ρ s₁ x1 hn1 hbo) (fun b s' q=>⟨q.1,g1.trans q.2⟩) fun _ _ q=>q.elim
 | false=>
  simp only [Bool.false_eq_true,if_false] at hn1 hbo ⊢
  refine wpAny_mono (hb own ρ s₁ x1 hn1 hbo) (fun b s' q=>⟨q.1,g1.trans q.2⟩) fun _ _ q=>q.elim
end
end Mine.Internal
end
section
set_option backward.eqns.nonrecursive false
namespace Mine.Internal
open PySem PySem.Spec PyProof.Rows
noncomputable def All (t:TC) (P:(cf:Nat->List PV->Res PV)->Fix->Prop):Prop:=
 ∀ cf f,FixOk f->f.t=t->CF f.B f.fa f.t.G cf f.D->P cf f
noncomputable def Ok (t:TC) (e:Expr) (p:PE) (k:Cl):Prop:=All t fun cf f=>EvOK f cf e p k/\TrOK f cf e p
noncomputable def Each (t:TC) (es:List Expr) (l:List (PE×Cl)):Prop:=All t fun cf f=>EachOK f cf es l
noncomputable def It (t:TC) (tup:Bool) (e:Expr) (r:ItK×List PE×Cl):Prop:=All t fun cf f=>ItOK f cf tup e r.1 r.2.1 r.2.2
abbrev TE (t:TC) (e:Expr):Type:=Option { a:PE×Cl // Ok t e a.1 a.2 }
theorem Ok.val {t:TC} {e:Expr} {p:PE} {k:Cl} (ho:∀ env whole,isTrue e env whole=(do let v <-whole;standAt e.pos;holding [v] (truthy v))) (h:All t fun cf f=>EvOK f cf e p k):Ok t e p k:=
 fun cf f F ht C=>⟨h cf f F ht C,.ofValue (h cf f F ht C) ho⟩
theorem Ok.con {t:TC} {c:Const} {kd:Nat} {pos:Pos} {d:PV} (h:cOf c=some d):Ok t (.Constant c kd pos) (.const d) .safe:=.val (fun _ _=>rfl) fun _ _ _ _ _=>const_sound h
theorem Ok.vr {t:TC} {x:Str} {pos:Pos} {i:Nat} (hd:(x==("__debug__" : Str))=false) (hi:t.slot x=some i):Ok t (.Name x pos) (.var i) (if i∈t.mv then .own else .safe):=.val (fun _ _=>rfl) fun _ _ F ht _=>by subst ht;exact name_var F hd hi
theorem Ok.gl {t:TC} {x:Str} {pos:Pos} {d:PV} (hd:(x==("__debug__" : Str))=false) (hg:t.glob x=true) (hl:t.G.lookup x=some (.const d)):Ok t (.Name x pos) (.const d) .safe:=.val (fun _ _=>rfl) fun _ _ F ht _=>by subst ht;exact name_const F hd hg hl
theorem Ok.bop {t:TC} {op:BoolOp} {es:List Expr} {l:List (PE×Cl)} {pos:Pos} (h:Each t es l) (he:es≠[]):Ok t (.BoolOp op es pos) (if op=.And then .and (l.map (·.1)) else .or (l.map (·.1))) .safe:=fun _ _ F ht C=>boolop_sound F (h _ _ F ht C) he
theorem Ok.bin {t:TC} {l r:Expr} {op:Operator} {pos:Pos} {a b:PE×Cl} {o:BOp} (ha:Ok t l a.1 a.2) (hb:Ok t r b.1 b.2) (ho:bopOf op=some o) (ht:(a.2.top&&b.2.top)=true):Ok t (.BinOp l op r pos) (.bin o a.1 b.1) .fresh:=.val (fun _ _=>rfl) fun _ _ F h C=>bin_sound F (ha _ _ F h C).1 (hb _ _ F h C).1 ho ht
theorem Ok.not {t:TC} {x:Expr} {pos:Pos} {a:PE×Cl} (ha:Ok t x a.1 a.2):Ok t (.UnaryOp .Not x pos) (.not a.1) .safe:=fun _ _ F h C=>⟨not_sound F (ha _ _ F h C).1,not_test F (ha _ _ F h C).2⟩
theorem Ok.neg {t:TC} {x:Expr} {pos:Pos} {a:PE×Cl} (ha:Ok t x a.1 a.2):Ok t (.UnaryOp .USub x pos) (.neg a.1) .safe:=.val (fun _ _=>rfl) fun _ _ F h C=>neg_sound F (ha _ _ F h C).1
theorem Ok.ite {t:TC} {c a b:Expr} {pos:Pos} {pc pa pb:PE×Cl} (hc:Ok t c pc.1 pc.2) (ha:Ok t a pa.1 pa.2) (hb:Ok t b pb.1 pb.2) (hi:(pa.2.inner&&pb.2.inner)=true):Ok t (.IfExp c a b pos) (.ite pc.1 pa.1 pb.1) .safe:=
 fun _ _ F h C=>⟨ite_sound F (hc _ _ F h C).2 (ha _ _ F h C).1 (hb _ _ F h C).1 hi,ite_test F (hc _ _ F h C).2 (ha _ _ F h C).2 (hb _ _ F h C).2⟩
theorem Ok.tup {t:TC} {es:List Expr} {l:List (PE×Cl)} {kd:Nat} {pos:Pos} (hs:es.any starred=false) (h:Each t es l):Ok t (.Tuple es kd pos) (.tup (l.map (·.1))) (clsJoin (l.map (·.2))):=.val (fun _ _=>rfl) fun _ _ F ht C=>tup_sound F (h _ _ F ht C) hs
theorem Ok.tupf {t:TC} {es:List Expr} {l:List (PE×Cl)} {kd:Nat} {pos:Pos} (hs:es.any starred=false) (h:Each t es l) (hc:clsJoin (l.map (·.2))=.safe):Ok t (.Tuple es kd pos) (.tup (l.map (·.1))) .fresh:=.val (fun _ _=>rfl) fun _ _ F ht C=>tup_fresh (hc ▸ tup_sound F (h _ _ F ht C) hs)
theorem Ok.lst {t:TC} {es:List Expr} {l:List (PE×Cl)} {pos:Pos} (hs:es.any starred=false) (h:Each t es l) (hc:clsJoin (l.map (·.2))=.safe):Ok t (.List es pos) (.lst (l.map (·.1))) .fresh:=.val (fun _ _=>rfl) fun _ _ F ht C=>lst_sound F (h _ _ F ht C) hs hc
theorem Ok.dct {t:TC} {pos:Pos}:Ok t (.Dict [] [] pos) .dct0 .fresh:=.val (fun _ _=>rfl) fun _ _ F _ _=>dct0_sound F
theorem Ok.cmp {t:TC} {l r:Expr} {op:CmpOp} {pos:Pos} {a b:PE×Cl} (ha:Ok t l a.1 a.2) (hb:Ok t r b.1 b.2) (ht:(a.2.top&&b.2.top&&!behindInMarks op r)=true):Ok t (.Compare l [op] [r] pos) (.cmp (copOf op) a.1 b.1) .safe:=fun _ _ F h C=>cmp_sound F (ha _ _ F h C).1 (hb _ _ F h C).1 ht
theorem Ok.slL {t:TC} {v lo:Expr} {pos sp:Pos} {a b:PE×Cl} (ha:Ok t v a.1 a.2) (hb:Ok t lo b.1 b.2) (hta:a.2.top=true):Ok t (.Subscript v (.Slice (some lo) none none sp) pos) (.slL a.1 b.1) .safe:=.val (fun _ _=>rfl) fun _ _ F h C=>slL_sound F (ha _ _ F h C).1 (hb _ _ F h C).1 hta
theorem Ok.slH {t:TC} {v hi:Expr} {pos sp:Pos} {a b:PE×Cl} (ha:Ok t v a.1 a.2) (hb:Ok t hi b.1 b.2) (hta:a.2.top=true):Ok t (.Subscript v (.Slice none (some hi) none sp) pos) (.slH a.1 b.1) .safe:=.val (fun _ _=>rfl) fun _ _ F h C=>slH_sound F (ha _ _ F h C).1 (hb _ _ F h C).1 hta
theorem Ok.idx {t:TC} {v i:Expr} {pos:Pos} {a b:PE×Cl} (hi:isSlice i=false) (ha:Ok t v a.1 a.2) (hb:Ok t i b.1 b.2) (ht:(a.2.top&&b.2.top)=true):Ok t (.Subscript v i pos) (.idx a.1 b.1) .safe:=.val (fun _ _=>rfl) fun _ _ F h C=>idx_sound F hi (ha _ _ F h C).1 (hb _ _ F h C).1 (Bool.and_eq_true_iff.1 ht).1 (Bool.and_eq_true_iff.1 ht).2
noncomputable def callable (g:Str) (es:List Expr):Bool:=!(g==("__debug__" : Str))&&!es.any starred&&!es.isEmpty
theorem callable_ok {g:Str} {es:List Expr} (h:callable g es=true):(g==("__debug__" : Str))=false/\es.any starred=false/\es≠[]:=by
 simp only [callable,Bool.and_eq_true,Bool.not_eq_true'] at h
 exact ⟨h.1.1,h.1.2,fun e=>by rw [e] at h;cases h.2⟩
theorem Ok.isi {t:TC} {g:Str} {gp pos:Pos} {x y:Expr} {a:PE×Cl} {ty:Ty} (hc:callable g [x,y]=true) (hg:t.bi g "isinstance" = true) (hy:TyIs t y ty) (ha:Ok t x a.1 a.2) (hta:a.2.top=true):Ok t (.Call (.Name g gp) [x,y] [] pos) (.prim (.isi ty) [a.1]) .safe:=
 .val (fun _ _=>rfl) fun _ _ F h C=>by subst h;exact isi_call_sound F hg (callable_ok hc).1 (by have:=(callable_ok hc).2.1;rw [List.any_cons,Bool.or_eq_false_iff] at this;exact this.1) (by have:=(callable_ok hc).2.1;rw [List.any_cons,List.any_cons,Bool.or_eq_false_iff,Bool.or_eq_false_iff] at this;exact this.2.1) hy (ha _ _ F rfl C).1 hta
theorem Ok.lr {t:TC} {g r:Str} {gp pos rp pos':Pos} {e:Expr} {a:PE×Cl} (hg:t.bi g "list" = true) (hr:t.bi r "range" = true) (hse:starred e=false) (ha:Ok t e a.1 a.2):Ok t (.Call (.Name g gp) [.Call (.Name r rp) [e] [] pos'] [] pos) (.prim .listRange [a.1]) .fresh:=
 .val (fun _ _=>rfl) fun _ _ F h C=>by subst h;exact listRange_call F hg (by rw [(bi_eq hg).1];decide +kernel) hr (by rw [(bi_eq hr).1];decide +kernel) hse (ha _ _ F rfl C).1
theorem Ok.prm {t:TC} {g:Str} {gp pos:Pos} {es:List Expr} {l:List (PE×Cl)} {p:Prim} (hc:callable g es=true) (hp:primOf t g=some p) (h:Each t es l) (ht:(l.map (·.2)).all Cl.top=true):Ok t (.Call (.Name g gp) es [] pos) (.prim p (l.map (·.1))) (primCl p):=
 .val (fun _ _=>rfl) fun _ _ F q C=>by subst q;exact primcall_sound F hp (callable_ok hc).1 (h _ _ F rfl C) (callable_ok hc).2.1 (callable_ok hc).2.2 ht
theorem Ok.usr {t:TC} {g:Str} {gp pos:Pos} {es:List Expr} {l:List (PE×Cl)} {i ar:Nat} {fr clean:Bool} (hc:callable g es=true) (hg:t.glob g=true) (hl:t.G.lookup g=some (.fn i ar fr)) (h:Each t es l) (hn:l.length=ar) (hk:if clean then fr=true else (l.map (·.2)).all Cl.inner=true):
  Ok t (.Call (.Name g gp) es [] pos) (.call i clean (l.map (·.1))) (if fr then .fresh else .safe):=
 .val (fun _ _=>rfl) fun _ _ F q C=>by subst q;exact usercall_sound F C hg hl (callable_ok hc).1 (h _ _ F rfl C) (callable_ok hc).2.1 (callable_ok hc).2.2 hn hk
theorem Ok.ind {t:TC} {m:Str} {o e:Expr} {apos pos:Pos} {a b:PE×Cl} (h0:PB o) (ha:Ok t o a.1 a.2) (hb:Ok t e b.1 b.2) (hc:(m==("index" : Str)&&!starred e&&(apos.endLine==pos.line)&&a.2.top&&b.2.top)=true):Ok t (.Call (.Attribute o m apos) [e] [] pos) (.index a.1 b.1) .safe:=
 .val (fun _ _=>rfl) fun _ _ F q C=>by
  simp only [Bool.and_eq_true,Bool.not_eq_true'] at hc
  rw [eq_of_beq hc.1.1.1.1]
  exact index_sound F h0 (ha _ _ F q C).1 (hb _ _ F q C).1 hc.1.1.1.2 hc.1.1.2 hc.1.2 hc.2
theorem Ok.slLH {t:TC} {v lo hi:Expr} {pos sp:Pos} {a b c:PE×Cl} (ha:Ok t v a.1 a.2) (hb:Ok t lo b.1 b.2) (hc:Ok t hi c.1 c.2) (hta:a.2.top=true):Ok t (.Subscript v (.Slice (some lo) (some hi) none sp) pos) (.slLH a.1 b.1 c.1) .safe:=.val (fun _ _=>rfl) fun _ _ F h C=>slLH_sound F (ha _ _ F h C).1 (hb _ _ F h C).1 (hc _ _ F h C).1 hta
theorem Ok.chain {t:TC} {l r₁ r₂ r₃:Expr} {pos:Pos} {a b c d:PE×Cl} (ha:Ok t l a.1 a.2) (hb:Ok t r₁ b.1 b.2) (hc:Ok t r₂ c.1 c.2) (hd:Ok t r₃ d.1 d.2) (hm:lastMarks [.LtE,.LtE,.LtE] [r₁,r₂,r₃]=false):Ok t (.Compare l [.LtE,.LtE,.LtE] [r₁,r₂,r₃] pos) (.chain a.1 b.1 c.1 d.1) .safe:=
 fun _ _ F h C=>chain_sound F (ha _ _ F h C).1 (hb _ _ F h C).1 (hc _ _ F h C).1 (hd _ _ F h C).1 hm
theorem Ok.attr {t:TC} {x nm:Str} {xp pos:Pos} {a:PE×Cl} {j:Nat} (ha:Ok t (.Name x xp) a.1 a.2) (hi:a.2.inner=true) (hf:fieldTab.lookup nm=some j):Ok t (.Attribute (.Name x xp) nm pos) (.attr a.1 j) .safe:=.val (fun _ _=>rfl) fun _ _ F h C=>attr_sound F (ha _ _ F h C).1 hi hf
theorem Ok.mth {t:TC} {m:Str} {o:Expr} {apos pos:Pos} {a:PE×Cl} {i:Nat} {fr clean:Bool} (h0:PB o) (ha:Ok t o a.1 a.2) (hm:meths.lookup m=some (.fn i 1 fr)) (hl:(apos.endLine==pos.line)=true) (hk:if clean then fr=true else a.2.inner=true):Ok t (.Call (.Attribute o m apos) [] [] pos) (.call i clean [a.1]) (if fr then .fresh else .safe):=
 .val (fun _ _=>rfl) fun _ _ F h C=>meth_sound F C h0 (ha _ _ F h C).1 hm hl hk
structure CR where
 one:Bool
 xs:List Str
 a:PE×Cl
 it:ItK×List PE×Cl
 cs:List (PE×Cl)
noncomputable def CR.pe (t:TC) (r:CR):PE:=.comp r.a.1 (compTgt t r.one r.xs) r.it.1 r.it.2.1 (r.cs.map (·.1))
structure CompIs (t:TC) (elt target iter:Expr) (ifs:List Expr) (scope:Scope) (r:CR):Prop where
 kd:scope.kind=.function
 tn:tgtNames target=some (r.one,r.xs)
 ok:compOk t scope.names r.xs=true
 inr:r.a.2.inner=true
 e:Ok (compTC t scope.names r.xs) elt r.a.1 r.a.2
 c:Each (compTC t scope.names r.xs) ifs r.cs
 i:It t (!r.one) iter r.it
theorem Ok.comp {t:TC} {elt target iter:Expr} {ifs:List Expr} {scope:Scope} {pos:Pos} {r:CR} (h:CompIs t elt target iter ifs scope r):Ok t (.ListComp elt [⟨target,iter,ifs,0⟩] scope pos) (r.pe t) .fresh:=
 .val (fun _ _=>rfl) fun _ f F q C=>by
  subst q
  exact comp_sound F h.kd h.tn (compOk_ok h.ok) h.inr (fun cl c hcl=>(h.e _ (compFix f scope r.xs cl c) (compFix_ok F h.kd (compOk_ok h.ok) hcl) rfl C).1) (fun cl c hcl=>h.c _ (compFix f scope r.xs cl c) (compFix_ok F h.kd (compOk_ok h.ok) hcl) rfl C) (h.i _ _ F rfl C)
theorem It.seq {t:TC} {tup:Bool} {e:Expr} {a:PE×Cl} (hs:∀ env x,foldedSetIterable e env x=pure x) (ha:Ok t e a.1 a.2) (ht:a.2.top=true):It t tup e (.seq,[a.1],a.2):=fun _ _ F q C=>it_seq F hs (ha _ _ F q C).1 ht
theorem It.range {t:TC} {tup:Bool} {g:Str} {gp pos:Pos} {e:Expr} {a:PE×Cl} (hb:t.bi g "range" = true) (hs:starred e=false) (ha:Ok t e a.1 a.2):It t tup (.Call (.Name g gp) [e] [] pos) (.range1,[a.1],.safe):=fun _ _ F q C=>by subst q;exact it_range F hb hs (ha _ _ F rfl C).1
theorem It.enum {t:TC} {g:Str} {gp pos:Pos} {e:Expr} {a:PE×Cl} (hb:t.bi g "enumerate" = true) (hs:starred e=false) (ha:Ok t e a.1 a.2) (ht:a.2.top=true):It t true (.Call (.Name g gp) [e] [] pos) (.enum,[a.1],a.2):=fun _ _ F q C=>by subst q;exact it_enum F hb hs (ha _ _ F rfl C).1 ht
noncomputable def toL {t:TC} (g:(e:Expr)->TE t e):(es:List Expr)->Option { l:List (PE×Cl) // Each t es l }
 | []=>some ⟨[],fun _ _ _ _ _=>.nil⟩
 | e::es=>(g e).bind fun a=>(toL g es).bind fun l=>some ⟨(a.1.1,a.1.2)::l.1,fun _ _ F q C=>.cons (a.2 _ _ F q C).1 (a.2 _ _ F q C).2 (l.2 _ _ F q C)⟩
noncomputable def toSeq {t:TC} (g:(e:Expr)->TE t e) (tup:Bool) (e:Expr) (hs:∀ env x,foldedSetIterable e env x=pure x):Option { r:ItK×List PE×Cl // It t tup e r }:=
 (g e).bind fun a=>if h:a.1.2.top=true then some ⟨_,.seq hs a.2 h⟩ else none
noncomputable def toRg {t:TC} (g:(e:Expr)->TE t e) (tup:Bool) (f:Str) (fp:Pos) (args:List Expr) (pos:Pos):Option { r:ItK×List PE×Cl // It t tup (.Call (.Name f fp) args [] pos) r }:=match args with
 | [a]=>if h:t.bi f "range" = true/\starred a=false then (g a).bind fun b=>some ⟨_,.range h.1 h.2 b.2⟩
   else if h:t.bi f "enumerate" = true/\starred a=false then (match tup with
    | true=>(g a).bind fun b=>if ht:b.1.2.top=true then some ⟨_,.enum h.1 h.2 b.2 ht⟩ else none
    | false=>none)
   else none
 | _=>none
noncomputable def toIt {t:TC} (g:(e:Expr)->TE t e) (tup:Bool) (e:Expr):Option { r:ItK×List PE×Cl // It t tup e r }:=match e with
 | .Call (.Name f fp) args [] pos=>(toRg g tup f fp args pos).or (toSeq g tup (.Call (.Name f fp) args [] pos) fun _ _=>rfl)
 | .Name x pos=>toSeq g tup (.Name x pos) fun _ _=>rfl
 | .Tuple es k pos=>toSeq g tup (.Tuple es k pos) fun _ _=>rfl
 | .List es pos=>toSeq g tup (.List es pos) fun _ _=>rfl
 | .Subscript v i pos=>toSeq g tup (.Subscript v i pos) fun _ _=>rfl
 | .BinOp l op r pos=>toSeq g tup (.BinOp l op r pos) fun _ _=>rfl
 | _=>none
noncomputable def toComp (g:(t:TC)->(e:Expr)->TE t e) (t:TC) (elt target iter:Expr) (ifs:List Expr) (scope:Scope):Option { r:CR // CompIs t elt target iter ifs scope r }:=
 match htn:tgtNames target with
 | none=>none
 | some (one,xs)=>if h:compOk t scope.names xs=true/\scope.kind=.function then
   (toIt (g t) (!one) iter).bind fun i=>(g (compTC t scope.names xs) elt).bind fun a=>(toL (g (compTC t scope.names xs)) ifs).bind fun c=>
    if hi:a.1.2.inner=true then some ⟨⟨one,xs,a.1,i.1,c.1⟩,h.2,htn,h.1,hi,a.2,c.2,i.2⟩ else none
  else none
noncomputable def toSp (g:(t:TC)->(e:Expr)->TE t e) (t:TC) (f:Str) (fp:Pos) (args:List Expr) (pos:Pos):TE t (.Call (.Name f fp) args [] pos):=match args with
 | [.Call (.Name r rp) [e] [] pos']=>if h:t.bi f "list" = true/\t.bi r "range" = true/\starred e=false then (g t e).bind fun a=>some ⟨(_,_),.lr h.1 h.2.1 h.2.2 a.2⟩ else none
 | _=>none
noncomputable def toCall (g:(t:TC)->(e:Expr)->TE t e) (t:TC) (f:Str) (fp:Pos) (args:List Expr) (pos:Pos):TE t (.Call (.Name f fp) args [] pos):=
 if hc:callable f args=true then
  match hp:primOf t f with
  | some p=>(toSp g t f fp args pos).or ((toL (g t) args).bind fun l=>if ht:(l.1.map (·.2)).all Cl.top=true then some ⟨(_,_),.prm hc hp l.2 ht⟩ else none)
  | none=>if hg:t.glob f=true then (match hl:t.G.lookup f with
   | some (.fn i ar fr)=>(toL (g t) args).bind fun l=>if hn:l.1.length=ar then
     (if hk:(l.1.map (·.2)).all Cl.inner=true then some ⟨(_,_),.usr (clean:=false) hc hg hl l.2 hn hk⟩
      else if hk:fr=true then some ⟨(_,_),.usr (clean:=true) hc hg hl l.2 hn hk⟩ else none) else none
   | none=>(match args with
    | [x,y]=>if hb:t.bi f "isinstance" = true then (toTy t y).bind fun ty=>(g t x).bind fun a=>if ht:a.1.2.top=true then some ⟨(_,_),.isi hc hb ty.2 a.2 ht⟩ else none else none
    | _=>none)
   | _=>none) else none
 else none
noncomputable def toSub {t:TC} (g:(e:Expr)->TE t e) (v i:Expr) (pos:Pos):TE t (.Subscript v i pos):=(g v).bind fun a=>if hta:a.1.2.top=true then (match i with
 | .Slice lo hi st sp=>(match lo,hi,st with
  | some lo,none,none=>(g lo).bind fun b=>some ⟨(_,_),.slL a.2 b.2 hta⟩
  | none,some hi,none=>(g hi).bind fun b=>some ⟨(_,_),.slH a.2 b.2 hta⟩
  | some lo,some hi,none=>(g lo).bind fun b=>(g hi).bind fun c=>some ⟨(_,_),.slLH a.2 b.2 c.2 hta⟩
  | _,_,_=>none)
 | i=>if hi:isSlice i=false then (g i).bind fun b=>if h:(a.1.2.top&&b.1.2.top)=true then some ⟨(_,_),.idx hi a.2 b.2 h⟩ else none else none) else none
noncomputable def toPB (o:Expr):Option (PLift (PB o)):=match o with
 | .Name _ _=>some ⟨.name⟩
 | .Attribute _ _ _=>some ⟨.attr⟩
 | .Call (.Name _ _) (_::_) _ _=>some ⟨.call⟩
 | _=>none
noncomputable def toPE:Nat->(t:TC)->(e:Expr)->TE t e
 | 0,_,_=>none
 | n+1,t,e=>match e with
  | .Constant c kd pos=>(match h:cOf c with
   | some d=>some ⟨(_,_),.con h⟩
   | none=>none)
  | .Name x pos=>if hd:(x==("__debug__" : Str))=false then (match h:t.slot x with
   | some i=>some ⟨(_,_),.vr hd h⟩
   | none=>if hg:t.glob x=true then (match hl:t.G.lookup x with
    | some (.const d)=>some ⟨(_,_),.gl hd hg hl⟩
    | _=>none) else none) else none
  | .BoolOp op es pos=>(toL (toPE n t) es).bind fun l=>if he:es≠[] then some ⟨(_,_),.bop l.2 he⟩ else none
  | .BinOp l op r pos=>(toPE n t l).bind fun a=>(toPE n t r).bind fun b=>(match ho:bopOf op with
   | some o=>if ht:(a.1.2.top&&b.1.2.top)=true then some ⟨(_,_),.bin a.2 b.2 ho ht⟩ else none
   | none=>none)
  | .UnaryOp .Not x pos=>(toPE n t x).bind fun a=>some ⟨(_,_),.not a.2⟩
  | .UnaryOp .USub x pos=>(toPE n t x).bind fun a=>some ⟨(_,_),.neg a.2⟩
  | .IfExp c a b pos=>(toPE n t c).bind fun c=>(toPE n t a).bind fun a=>(toPE n t b).bind fun b=>if h:(a.1.2.inner&&b.1.2.inner)=true then some ⟨(_,_),.ite c.2 a.2 b.2 h⟩ else none
  | .Tuple es kd pos=>if hs:es.any starred=false then (toL (toPE n t) es).bind fun l=>if hc:clsJoin (l.1.map (·.2))=.safe then some ⟨(_,_),.tupf hs l.2 hc⟩ else some ⟨(_,_),.tup hs l.2⟩ else none
  | .List es pos=>if hs:es.any starred=false then (toL (toPE n t) es).bind fun l=>if hc:clsJoin (l.1.map (·.2))=.safe then some ⟨(_,_),.lst hs l.2 hc⟩ else none else none
  | .Dict [] [] pos=>some ⟨(_,_),.dct⟩
  | .Compare l [o] [r] pos=>(toPE n t l).bind fun a=>(toPE n t r).bind fun b=>if h:(a.1.2.top&&b.1.2.top&&!behindInMarks o r)=true then some ⟨(_,_),.cmp a.2 b.2 h⟩ else none
  | .Compare l [.LtE,.LtE,.LtE] [r₁,r₂,r₃] pos=>(toPE n t l).bind fun a=>(toPE n t r₁).bind fun b=>(toPE n t r₂).bind fun c=>(toPE n t r₃).bind fun d=>if h:lastMarks [.LtE,.LtE,.LtE] [r₁,r₂,r₃]=false then some ⟨(_,_),.chain a.2 b.2 c.2 d.2 h⟩ else none
  | .Attribute (.Name x xp) nm pos=>(toPE n t (.Name x xp)).bind fun a=>if hi:a.1.2.inner=true then (match hf:fieldTab.lookup nm with
   | some j=>some ⟨(_,_),.attr a.2 hi hf⟩
   | none=>none) else none
  | .Call (.Attribute o m apos) [] [] pos=>(toPB o).bind fun h0=>(toPE n t o).bind fun a=>if hl:(apos.endLine==pos.line)=true then (match hm:meths.lookup m with
   | some (.fn i 1 fr)=>if hk:a.1.2.inner=true then some ⟨(_,_),.mth (clean:=false) h0.1 a.2 hm hl hk⟩ else if hk:fr=true then some ⟨(_,_),.mth (clean:=true) h0.1 a.2 hm hl hk⟩ else none
   | _=>none) else none
  | .Subscript v i pos=>toSub (toPE n t) v i pos
  | .Call (.Name f fp) args [] pos=>toCall (toPE n) t f fp args pos
  | .Call (.Attribute o m apos) [e] [] pos=>(toPB o).bind fun h0=>(toPE n t o).bind fun a=>(toPE n t e).bind fun b=>if h:(m==("index" : Str)&&!starred e&&(apos.endLine==pos.line)&&a.1.2.top&&b.1.2.top)=true then some ⟨(_,_),.ind h0.1 a.2 b.2 h⟩ else none
  | .ListComp elt [⟨target,iter,ifs,0⟩] scope pos=>(toComp (toPE n) t elt target iter ifs scope).bind fun r=>some ⟨(_,_),.comp r.2⟩
  | _=>none
end Mine.Internal
end
section
set_option backward.eqns.nonrecursive false
namespace Mine.Internal
open PySem
noncomputable def isComp:Expr->Bool
 | .ListComp .. | .SetComp .. | .DictComp ..=>true
 | _=>false
noncomputable def stOk (t:TC) (i:Nat) (k:Cl):Bool:=if i∈t.mv then k==.fresh else k.inner
noncomputable def isTuple:Expr->Bool
 | .Tuple ..=>true
 | _=>false
structure Def where
 name:Str
 args:Arguments
 body:List Stmt
 scope:Scope
mutual
noncomputable def mutS:Stmt->List Str
 | .Assign [.Subscript (.Name x _) _ _] _ _=>[x]
 | .Expr (.Call (.Attribute (.Name x _) m _) _ _ _) _=>if m==("append" : Str)||m==("update" : Str)||m==("step" : Str) then [x] else []
 | .If _ a b _=>mutSs a++mutSs b
 | .For _ _ b _ _=>mutSs b
 | .While _ b _ _=>mutSs b
 | _=>[]
noncomputable def mutSs:List Stmt->List Str
 | []=>[]
 | s::r=>mutS s++mutSs r
end
noncomputable def paramsOf (a:Arguments):List Str:=a.args.map (·.arg)
noncomputable def slotsOf (d:Def):List (Str×Nat):=
 (paramsOf d.args++(d.scope.names.filter fun p=>(p.2==.local||p.2==.cell)&&!(paramsOf d.args).contains p.1).map (·.1)).zipIdx
structure Opt where
 fr:Bool:=false
 own:List Str:=[]
 skip:Bool:=false
noncomputable def optOf (os:List (Str×Opt)) (x:Str):Opt:=(os.lookup x).getD {}
noncomputable def mvOf (os:List (Str×Opt)) (d:Def):List Nat:=(slotsOf d).filterMap fun p=>if (mutSs d.body++(optOf os d.name).own).contains p.1 then some p.2 else none
noncomputable def tcOf (os:List (Str×Opt)) (G:List (Str×GE)) (d:Def):TC:={ scope:=d.scope.names,slots:=slotsOf d,mv:=mvOf os d,G:=G,cbase:=(slotsOf d).length }
noncomputable def mkG (os:List (Str×Opt)) (ds:List Def) (more:List (Str×GE)):List (Str×GE):=(ds.zipIdx.filter fun p=>!(optOf os p.1.name).skip).map (fun p=>(p.1.name,GE.fn p.2 p.1.args.args.length (optOf os p.1.name).fr))++more
end Mine.Internal
end
section
set_option backward.eqns.nonrecursive false
namespace Mine.Internal
open PySem PySem.Spec PyProof.Rows
inductive Evo (c:Cx) (own own':Addr->Option Nat) (s s':Shared):Prop where
 | mk (eh:∃ h' tk,s'=(up s (h') (tk))) (hn:∀ b o,s.heap.get? b=some o->own b=none->own' b=none)
  (hs:∀ b o,s.heap.get? b=some o->Stay own s.heap b->b∉frs c.A->b≠c.env.locals->(∀ v,o.data≠.cell v)->s'.heap.get? b=some o)
section
variable {c:Cx} {own own' own'':Addr->Option Nat} {ρ:Slots} {s s' s'':Shared}
theorem Evo.refl:Evo c own own s s:=⟨⟨s.heap,s.toks,rfl⟩,fun _ _ _ h=>h,fun _ _ h _ _ _ _=>h⟩
theorem Stay.to {b:Addr} {o:Obj} {h h':Heap} (x:Stay own h b) (ho:h.get? b=some o) (ho':h'.get? b=some o) (hn:own b=none->own' b=none):Stay own' h' b:=by
 rcases x with x | ⟨o1,vs,n,h1,h2,h3⟩
 ·exact .inl (hn x)
 ·rw [ho] at h1;cases h1;exact .inr ⟨o,vs,n,ho',h2,h3⟩
theorem Evo.trans (x:Evo c own own' s s') (y:Evo c own' own'' s' s'') (hin:∀ b o,s.heap.get? b=some o->∃ o',s'.heap.get? b=some o'):Evo c own own'' s s'':=by
 obtain ⟨⟨h1,t1,rfl⟩,a1,b1⟩:=x
 obtain ⟨⟨h2,t2,rfl⟩,a2,b2⟩:=y
 refine ⟨⟨h2,t2,rfl⟩,fun b o hb hn=>?_,fun b o hb hs h3 h4 h5=>?_⟩
 ·obtain ⟨o',ho'⟩:=hin b o hb
  exact a2 b o' ho' (a1 b o hb hn)
 ·have:=b1 b o hb hs h3 h4 h5
  exact b2 b o this (hs.to hb this (a1 b o hb)) h3 h4 h5
theorem Evo.grow (g:Grow c.A s s'):Evo c own own s s':=by
 obtain ⟨h1,t1,rfl,k⟩:=g
 exact ⟨⟨h1,t1,rfl⟩,fun _ _ _ h=>h,fun b o hb _ h3 _ _=>(k b o hb).1 h3⟩
theorem Evo.claim (g:Grow c.A s s') (hs:∀ b o,s.heap.get? b=some o->own' b=own b):Evo c own own' s s':=by
 obtain ⟨h1,t1,rfl,k⟩:=g
 exact ⟨⟨h1,t1,rfl⟩,fun b o hb h=>(hs b o hb).trans h,fun b o hb _ h3 _ _=>(k b o hb).1 h3⟩
theorem Evo.stored (x:St c own ρ s) {N:Addr->Prop} (hN:∀ b,N b->Names c b) (st:Stored N s s'):Evo c own own s s':=by
 obtain ⟨h1,t1,rfl,k⟩:=st
 refine ⟨⟨h1,t1,rfl⟩,fun _ _ _ h=>h,fun b o hb _ _ h4 h5=>k b o hb fun hn=>?_⟩
 rcases hN b hn with e | ⟨n,hn⟩
 ·exact h4 e
 ·obtain ⟨v,o',ho',hd⟩:=x.cell n b hn
  rw [hb] at ho';cases ho';exact h5 v hd
theorem Grow.in_ {A:Around} (g:Grow A s s'):∀ b o,s.heap.get? b=some o->∃ o',s'.heap.get? b=some o':=fun b o hb=>g.h.some ⟨o,hb⟩
end
section
inductive RetOK (f:Fix) (fr:Bool) (s s':Shared) (d:PV) (v:Value):Prop where
 | mk (eh:∃ h' tk,s'=(up s (h') (tk))) (g:GrowH (frs f.c.A) f.c.h0 s'.heap) (r:RetRd f.c.h0 s'.heap f.c.P0 fr d v)
inductive NextOK (f:Fix) (R:Res Out) (own:Addr->Option Nat) (s s':Shared):Prop where
 | mk (ρ':Slots) (own':Addr->Option Nat) (e:R=.ok (.next ρ')) (x:St f.c own' ρ' s') (ev:Evo f.c own own' s s') (hin:∀ b o,s.heap.get? b=some o->∃ o',s'.heap.get? b=some o')
noncomputable def ExPost (f:Fix) (fr:Bool) (R:Res Out) (own:Addr->Option Nat) (s:Shared) (fl:Flow) (s':Shared):Prop:=match fl with
 | .next=>NextOK f R own s s'
 | .ret v=>∃ d,R=.ok (.ret d)/\RetOK f fr s s' d v
 | _=>False
def ExOK (f:Fix) (cf:Nat->List PV->Res PV) (fr:Bool) (st:Stmt) (p:PS):Prop:=
 ∀ own ρ s,St f.c own ρ s->ex cf ρ p≠.stuck->wpAny (model prog w) f.c.A (exec st f.c.env) (ExPost f fr (ex cf ρ p) own s) (fun _ _=>False) s
noncomputable def ExsOK (f:Fix) (cf:Nat->List PV->Res PV) (fr:Bool) (st:List Stmt) (p:List PS):Prop:=
 ∀ own ρ s,St f.c own ρ s->exs cf ρ p≠.stuck->wpAny (model prog w) f.c.A (execs st f.c.env) (ExPost f fr (exs cf ρ p) own s) (fun _ _=>False) s
end
section
variable {f:Fix} {cf:Nat->List PV->Res PV} {own:Addr->Option Nat} {ρ:Slots} {s s₁:Shared} {fr:Bool}
theorem St.own1 (F:FixOk f) (x:St f.c own ρ s) (g:Grow f.c.A s s₁) {i:Nat} (hi:i∈f.c.mv) {d:PV} {v:Value} (r:RdC f.c own s.heap s₁.heap .fresh d v):
  ∃ own',St f.c own' ρ s₁/\VRd s₁.heap f.c own' i d v/\∀ b o,s.heap.get? b=some o->own' b=own b:=by
 have key:∀ {a:Addr},v=.ref a->s.heap.get? a=none->(∃ o,s₁.heap.get? a=some o)->RdO s₁.heap (fun b=>Fz f.c own b/\v≠.ref b) (fun b=>b=a) d v->∃ own',St f.c own' ρ s₁/\VRd s₁.heap f.c own' i d v/\∀ b o,s.heap.get? b=some o->own' b=own b:=by
  intro a hv hn ho rr
  have hs:∀ b o,s.heap.get? b=some o->(if b=a then some i else own b)=own b:=fun b o hb=>if_neg fun e=>by rw [e,hn] at hb;cases hb
  refine ⟨fun b=>if b=a then some i else own b,x.claim F.ok g hs fun b hb=>?_,?_,hs⟩
  ·by_cases e:b=a
   ·rw [e];exact ho
   ·rw [if_neg e] at hb;exact (x.grow F.ok g).ownIn b hb
  ·unfold VRd
   rw [if_pos hi]
   refine RdO.imp (fun b _ _ _ p=>?_) (fun b _ _ _ p=>⟨p.1.1,?_⟩) rr
   ·exact if_pos p
   ·have:b≠a:=fun e=>p.2 (e ▸ hv)
    simp only [if_neg this];exact p.1.2
 have same:RdO s₁.heap (Fz f.c own) (fun a=>own a=some i) d v->∃ own',St f.c own' ρ s₁/\VRd s₁.heap f.c own' i d v/\∀ b o,s.heap.get? b=some o->own' b=own b:=fun rr=>by
  refine ⟨own,x.grow F.ok g,?_,fun _ _ _=>rfl⟩
  unfold VRd
  rw [if_pos hi]
  exact rr
 cases d with
 | list l=>
  obtain ⟨a,vs,hv,hn,⟨n,hs⟩,hl,hr⟩:=r
  exact key hv hn ⟨_,hs⟩ ⟨a,vs,hv,rfl,⟨n,hs⟩,hl,hr⟩
 | dict l=>
  obtain ⟨a,vs,hv,hn,h1,hl,hq,hr⟩:=r
  refine key hv hn ?_ ⟨a,vs,hv,rfl,h1,hl,hq,hr⟩
  rcases hq with ⟨_,⟨o,_,_,ho,_⟩,_⟩ | ⟨_,⟨o,_,_,ho,_⟩,_⟩<;>exact ⟨o,ho⟩
 | obj th tu kd fr lf=>
  obtain ⟨xa,dx,la,t,m,vs,us,hv,ox,od,oa,ot,hx,ns,am,sk,ne,im,q,ln,rr,n1,lt,dq,dr⟩:=r
  have hs:∀ b o,s.heap.get? b=some o->(if b=xa\/b=dx\/b=la\/b=t then some i else own b)=own b:=fun b o hb=>if_neg fun e=>by
   rcases e with rfl | rfl | rfl | rfl
   ·rw [ox] at hb;cases hb
   ·rw [od] at hb;cases hb
   ·rw [oa] at hb;cases hb
   ·rw [ot] at hb;cases hb
  refine ⟨fun b=>if b=xa\/b=dx\/b=la\/b=t then some i else own b,x.claim F.ok g hs fun b hb=>?_,?_,hs⟩
  ·by_cases e:b=xa\/b=dx\/b=la\/b=t
   ·rcases e with rfl | rfl | rfl | rfl
    ·obtain ⟨o,ho,_⟩:=hx;exact ⟨o,ho⟩
    ·obtain ⟨o,_,_,ho,_⟩:=ns;exact ⟨o,ho⟩
    ·obtain ⟨_,ho⟩:=q;exact ⟨_,ho⟩
    ·rcases dq with ⟨_,⟨o,_,_,ho,_⟩,_⟩ | ⟨_,⟨o,_,_,ho,_⟩,_⟩<;>exact ⟨o,ho⟩
   ·rw [if_neg e] at hb;exact (x.grow F.ok g).ownIn b hb
  ·unfold VRd
   rw [if_pos hi]
   exact ⟨xa,dx,la,t,m,vs,us,hv,if_pos (.inl rfl),if_pos (.inr (.inl rfl)),if_pos (.inr (.inr (.inl rfl))),if_pos (.inr (.inr (.inr rfl))),hx,ns,am,sk,ne,im,q,ln,Rds.ofImm th im.1 rr,n1,lt,dq,RdKV.ofImm tu im.2 dr⟩
 | tuple l=>exact same (Rd.imp (fun _ _ _ _ p=>p.1) (.tuple l) r)
 | _=>exact same r
theorem Stored.in_ {c:Cx} (x:St c own ρ s) {ρ':Slots} {own':Addr->Option Nat} {s':Shared} (x':St c own' ρ' s') {N:Addr->Prop} (hN:∀ b,N b->Names c b) (st:Stored N s s'):∀ b o,s.heap.get? b=some o->∃ o',s'.heap.get? b=some o':=fun b o hb=>by
 obtain ⟨h1,t1,rfl,k⟩:=st
 by_cases hn:N b
 ·rcases hN b hn with e | ⟨n,hn⟩
  ·obtain ⟨_,m,o',_,_,ho',_⟩:=x'.loc;rw [e];exact ⟨o',ho'⟩
  ·obtain ⟨v,o',ho',_⟩:=x'.cell n b hn;exact ⟨o',ho'⟩
 ·exact ⟨o,k b o hb hn⟩
theorem store_after (F:FixOk f) (x:St f.c own ρ s) (g:Grow f.c.A s s₁) {y:Str} {i:Nat} (hm:(y,i)∈f.c.names) {k:Cl} (hk:(if i∈f.t.mv then k==.fresh else k.inner)=true) {d:PV} {v:Value} (r:RdC f.c own s.heap s₁.heap k d v)
  {Q:Unit->Shared->Prop} {E:Value->Shared->Prop} (hQ:∀ own' s',St f.c own' (ρ.set i (some d)) s'->Evo f.c own own' s s'->(∀ b o,s.heap.get? b=some o->∃ o',s'.heap.get? b=some o')->Q () s'):
  wpAny (model prog w) f.c.A (storeName f.c.env y v) Q E s₁:=by
 have x1:=x.grow F.ok g
 by_cases hi:i∈f.t.mv
 ·rw [if_pos hi] at hk
  have hk':k=.fresh:=eq_of_beq hk
  subst hk'
  obtain ⟨own',x2,hv,hs⟩:=x.own1 F g (F.mv ▸ hi) r
  refine x2.store (N:=Names f.c) (fun b h=>h.names) F.ok hm hv fun s' x' st=>hQ own' s' x' ?_ ?_
  ·exact (Evo.claim g hs).trans (Evo.stored x2 (fun _ h=>h) st) g.in_
  ·intro b o hb
   obtain ⟨o',ho'⟩:=g.in_ b o hb
   exact st.in_ x2 x' (fun _ h=>h) b o' ho'
 ·rw [if_neg hi] at hk
  refine x1.store (N:=Names f.c) (fun b h=>h.names) F.ok hm (d:=d) (by unfold VRd;rw [if_neg (F.mv ▸ hi)];exact r.rd x hk) fun s' x' st=>hQ own s' x' ?_ ?_
  ·exact (Evo.grow g).trans (Evo.stored x1 (fun _ h=>h) st) g.in_
  ·intro b o hb
   obtain ⟨o',ho'⟩:=g.in_ b o hb
   exact st.in_ x1 x' (fun _ h=>h) b o' ho'
theorem EvOK.useX (h:EvOK f cf e p k) (F:FixOk f) (x:St f.c own ρ s) {g:PV->Res Out} (hns:(ev cf ρ p).bind g≠.stuck) {Q:Value->Shared->Prop}
  (hQ:∀ d v s',ev cf ρ p=.ok d->(ev cf ρ p).bind g=g d->g d≠.stuck->Grow f.c.A s s'->St f.c own ρ s'->RdC f.c own s.heap s'.heap k d v->Q v s'):
  wpAny (model prog w) f.c.A (eval e f.c.env) Q (fun _ _=>False) s:=
 h.use F x hns hQ
theorem assign_sound (F:FixOk f) {y:Str} {py pos:Pos} {value:Expr} {i:Nat} {a:PE} {k:Cl} (hm:(y,i)∈f.c.names) (hev:EvOK f cf value a k) (hk:(if i∈f.t.mv then k==.fresh else k.inner)=true)
  (hs:swapsWith value (some (.Name y py)) pos.line f.c.env=pure false):ExOK f cf fr (.Assign [.Name y py] value pos) (.assign i a):=by
 intro own ρ s x hn
 dsimp only [xE1] at hn ⊢
 refine wpAny_Assign_Name (hev.useX F x hn fun d v s₁ e1 e2 hn1 g1 x1 r1=>?_) hs
 rw [e2]
 exact store_after F x g1 hm hk r1 fun own' s' x' ev hin=>⟨_,own',rfl,x',ev,hin⟩
theorem assign_comp_sound (F:FixOk f) {elt target iter:Expr} {ifs:List Expr} {scope:Scope} {pos spos:Pos} {xs:List Str} {one:Bool} (hkd:scope.kind=.function) (htn:tgtNames target=some (one,xs)) (ok:CompOk f.t scope.names xs)
  {a:PE} {k cl0:Cl} {kk:ItK} {src:List PE} {cs:List (PE×Cl)} (hk:k.inner=true) (hev:∀ cl C,Clo f.c.env scope.names cl->EvOK (compFix f scope xs cl C) cf elt a k) (hcs:∀ cl C,Clo f.c.env scope.names cl->EachOK (compFix f scope xs cl C) cf ifs cs)
  (hit:ItOK f cf (!one) iter kk src cl0)
  {y:Str} {py:Pos} {i:Nat} (hm:(y,i)∈f.c.names) (hloc:f.c.env.kindOf y=some .local) (hs:swapsWith (.ListComp elt [⟨target,iter,ifs,0⟩] scope pos) (some (.Name y py)) spos.line f.c.env=pure true):
  ExOK f cf fr (.Assign [.Name y py] (.ListComp elt [⟨target,iter,ifs,0⟩] scope pos) spos) (.assign i (.comp a (compTgt f.t one xs) kk src (cs.map (·.1)))):=by
 intro own ρ s x hn
 dsimp only [xE1] at hn ⊢
 have hn1:ev cf ρ (.comp a (compTgt f.t one xs) kk src (cs.map (·.1)))≠.stuck:=fun q=>hn (by rw [q];rfl)
 rw [exec_Assign_Name_used _ _ _ _ hs]
 refine wpAny_bind (wpAny_standAt (wpAny_bind ?_))
 show wpAny _ _ (do let _ <-comprehension (.ListComp elt [⟨target,iter,ifs,0⟩] scope pos) scope f.c.env _ (newList []) false (eval iter f.c.env) (some (assign (.Name y py) f.c.env))) _ _ s
 refine wpAny_bind (wpAny_mono (comp_run (use:=some (assign (.Name y py) f.c.env)) (Q:=fun _ s'=>ExPost f fr ((ev cf ρ (.comp a (compTgt f.t one xs) kk src (cs.map (·.1)))).bind fun d=>.ok (.next (ρ.set i (some d)))) own s .next s')
  (E:=fun _ _=>False)
  F hkd htn ok hk hev hcs hit x hn1 fun C D s' l vs e1 hC hD hDC hns hl hlen hr g x'=>?_) (fun _ s' q=>wpAny_pure (wpAny_pure q)) fun _ _ e=>e)
 rw [e1]
 obtain ⟨m,hm0⟩:=hns
 obtain ⟨oC,esC,epC,hoC,hdC,_⟩:=id hm0
 obtain ⟨nD,hoD⟩:=id hl
 let own1:Addr->Option Nat:=fun b=>if b=C then some dum else if b=D/\i∈f.c.mv then some i else own b
 have hCl:C≠f.c.env.locals:=fun e=>by
  obtain ⟨_,m',o,_,_,ho,_⟩:=x.loc
  rw [<-e,hC] at ho;cases ho
 have hCf:C∉frs f.c.A:=fun hf=>by
  obtain ⟨_,m',o,_,_,ho,_⟩:=x.fr C hf
  rw [hC] at ho;cases ho
 have hold:∀ b o,s.heap.get? b=some o->own1 b=own b:=fun b o hb=>by
  have h1:b≠C:=fun e=>by rw [e,hC] at hb;cases hb
  have h2:b≠D:=fun e=>by rw [e,hD] at hb;cases hb
  show (if b=C then some dum else if b=D/\i∈f.c.mv then some i else own b)=own b
  rw [if_neg h1,if_neg fun h=>h2 h.1]
 have x1:St f.c own1 ρ s':=x.claim F.ok g hold fun b hb=>by
  by_cases h1:b=C
  ·rw [h1];exact ⟨_,hoC⟩
  by_cases h2:b=D
  ·rw [h2];exact ⟨_,hoD⟩
  ·refine x'.ownIn b ?_
   have:own1 b=own b:=by show (if b=C then some dum else if b=D/\i∈f.c.mv then some i else own b)=own b;rw [if_neg h1,if_neg fun h=>h2 h.1]
   rwa [this] at hb
 have hvrd:VRd s'.heap f.c own1 i (.list l) (.ref D):=by
  have inn:Rds s'.heap (Fz f.c own1) l vs.toList:=Rds.imp (fun b o ho _ p=>⟨p.1.1,by
   show (if b=C then some dum else if b=D/\i∈f.c.mv then some i else own b)=none
   rw [if_neg p.2.1,if_neg fun h=>p.2.2 h.1];exact p.1.2⟩) l hr
  unfold VRd
  split
  ·rename_i hi
   refine ⟨D,vs,rfl,?_,hl,hlen,inn⟩
   show (if D=C then some dum else if D=D/\i∈f.c.mv then some i else own D)=some i
   rw [if_neg hDC,if_pos ⟨rfl,hi⟩]
  ·rename_i hi
   refine ⟨D,vs,rfl,⟨.inr (x.newBase hD),?_⟩,hl,hlen,inn⟩
   show (if D=C then some dum else if D=D/\i∈f.c.mv then some i else own D)=none
   rw [if_neg hDC,if_neg fun h=>hi h.2]
   exact x.newOwn hD
 show wpAny _ _ (assign (.Name y py) f.c.env (.ref D)) _ _ s'
 refine wpAny_assign_Name (x1.store (N:=fun b=>b=f.c.env.locals) (fun b h=>?_) F.ok hm hvrd fun s2 x2 st=>?_)
 ·rcases h with ⟨_,e⟩ | ⟨e,_⟩
  ·exact e
  ·rw [hloc] at e;cases e
 have hC2:s2.heap.get? C=some oC:=by
  obtain ⟨h2,t2,rfl,k2⟩:=st
  exact k2 C oC hoC hCl
 refine ⟨m,hm0.at' (fun o ho=>?_),fun h3 hs3=>?_⟩
 ·rw [hoC] at ho;cases ho;exact hC2
 have hD1:own1 C=some dum:=if_pos rfl
 let own2:Addr->Option Nat:=fun b=>if b=C then none else own1 b
 have x3:St f.c own2 (ρ.set i (some (.list l))) (up s2 (h3) (s2.toks)):=by
  refine x2.change' F.ok (W:=fun b=>b=C) (fun b hb=>?_) ⟨fun b hb=>?_,fun b j hj hb=>?_,fun b j hj hb=>?_,fun b hb=>?_,?_⟩ (fun b hb ho=>?_) (fun b hb=>if_neg hb) fun b o hb ho=>(hs3.2 b hb).trans ho
  ·subst hb
   exact ⟨x.newBase hC,oC,hC2,.inr (.inr ⟨hD1,hCf,hCl,_,_,hdC⟩)⟩
  ·show (if b=C then none else own1 b)=none
   split
   ·rfl
   ·exact hb
  ·have:b≠C:=fun e=>by rw [e,hD1] at hb;cases hb;exact F.ok.dumNot hj
   show (if b=C then none else own1 b)=some j
   rw [if_neg this];exact hb
  ·have:b≠C:=fun e=>by
    have:own2 C=none:=if_pos rfl
    rw [e,this] at hb;cases hb
   have h2:own2 b=own1 b:=if_neg this
   rwa [h2] at hb
  ·exact if_neg (fun (e:b=C)=>hCf (e ▸ hb))
  ·exact if_neg (fun (e:f.c.env.locals=C)=>hCl e.symm)
  ·exact absurd (by rw [hb];exact if_pos rfl) ho
 refine ⟨_,own2,rfl,x3,?_,fun b o hb=>?_⟩
 ·have e1:Evo f.c own own1 s s2:=(Evo.claim g hold).trans (Evo.stored x1 (fun b h=>.inl h) st) g.in_
  obtain ⟨⟨h2,t2,rfl⟩,a2,b2⟩:=e1
  refine ⟨⟨h3,t2,rfl⟩,fun b o hb hn=>?_,fun b o hb hst h4 h5 h6=>?_⟩
  ·show (if b=C then none else own1 b)=none
   split
   ·rfl
   ·exact a2 b o hb hn
  ·have:b≠C:=fun e=>by rw [e,hC] at hb;cases hb
   exact (hs3.2 b this).trans (b2 b o hb hst h4 h5 h6)
 ·obtain ⟨o1,ho1⟩:=g.in_ b o hb
  obtain ⟨o2,ho2⟩:=st.in_ x1 x2 (fun b h=>.inl h) b o1 ho1
  have:b≠C:=fun e=>by rw [e,hC] at hb;cases hb
  exact ⟨o2,(hs3.2 b this).trans ho2⟩
end
end Mine.Internal
end
section
namespace Mine.Internal
open PySem PySem.Spec PyProof.Rows
section
variable {c:Cx} {own:Addr->Option Nat} {ρ:Slots} {s s':Shared}
theorem St.load' {M:Model} {A:Around} {Q:Value->Shared->Prop} {E:Value->Shared->Prop} {y:Str} {i:Nat} {d:PV} (ok:CxOk c) (x:St c own ρ s) (hm:(y,i)∈c.names) (hd:ρ[i]?=some (some d))
  (h:∀ v,VarAt s.heap c.env y v->VRd s.heap c own i d v->Q v s):wpAny M A (loadName c.env y) Q E s:=by
 obtain ⟨v,hv,hr⟩:=x.vars y i d hm hd
 rcases id hv with ⟨k,m,hn,e⟩ | ⟨k,a,hl,hc⟩
 ·exact wpAny_loadName_local ok.kind k hn e (h v hv hr)
 ·exact wpAny_loadName_cell ok.kind k hl hc (h v hv hr)
noncomputable def ListOrDict (o:Obj):Prop:=(∃ vs n,o.data=.seq vs n/\o.cls=.type "list")\/(∃ es n,o.data=.dict es n)
structure Mut (o:Obj):Prop where
 tup:o.cls=.type "tuple" -> ∀ vs n,o.data≠.seq vs n
 cell:∀ v,o.data≠.cell v
theorem ListOrDict.mut {o:Obj} (h:ListOrDict o):Mut o:=by
 rcases h with ⟨vs,n,h1,h2⟩ | ⟨es,n,h1⟩
 ·exact ⟨fun q=>(by rw [h2] at q;simp at q),fun v q=>(by rw [h1] at q;cases q)⟩
 ·exact ⟨fun _ vs n q=>(by rw [h1] at q;cases q),fun v q=>(by rw [h1] at q;cases q)⟩
theorem mut_kps {W:Addr->Prop} (hW:∀ b,W b->∃ o,s.heap.get? b=some o/\Mut o) {h':Heap} (k:∀ b o,¬ W b->s.heap.get? b=some o->h'.get? b=some o) {P:Addr->Prop} (hP:∀ b,W b->¬ P b):Kp P s.heap h':=fun b o' ho' hm=>by
 refine k b o' (fun e=>?_) ho'
 obtain ⟨o,ho,md⟩:=hW b e
 rw [ho] at ho';cases ho'
 rcases hm with ⟨_,_,hd',hc | ⟨hp,_⟩⟩ | ⟨_,_,_,hp⟩ | ⟨_,hp⟩
 ·exact md.tup hc _ _ hd'
 ·exact hP b e hp
 ·exact hP b e hp
 ·exact hP b e hp
theorem mut_kp {a:Addr} {o:Obj} (ho:s.heap.get? a=some o) (hd:ListOrDict o) {h':Heap} (k:∀ b o,b≠a->s.heap.get? b=some o->h'.get? b=some o) {P:Addr->Prop} (hP:¬ P a):Kp P s.heap h':=
 mut_kps (W:=fun b=>b=a) (fun b e=>⟨o,e ▸ ho,hd.mut⟩) k fun b e=>e ▸ hP
theorem St.mutates (ok:CxOk c) (x:St c own ρ s) {y:Str} {i:Nat} (hi:i∈c.mv) (hm:(y,i)∈c.names) {W:Addr->Prop} (ha:∀ b,W b->own b=some i) {v:Value} (hv:VarAt s.heap c.env y v) (hW:∀ b,W b->∃ o,s.heap.get? b=some o/\Mut o)
  {h':Heap} {tk:Nat} (k:∀ b o,¬ W b->s.heap.get? b=some o->h'.get? b=some o) (hex:∀ b,W b->∃ o,h'.get? b=some o) {d':PV} (r:RdO h' (Fz c own) (fun b=>own b=some i) d' v):
  St c own (ρ.set i (some d')) (up s (h') (tk))/\Evo c own own s (up s (h') (tk))/\∀ b o,s.heap.get? b=some o->∃ o',h'.get? b=some o':=by
 have had:∀ b,W b->own b≠some dum:=fun b hb e=>by rw [ha b hb] at e;cases e;exact ok.dumNot hi
 have nsne:∀ {b m},own b=some dum->s.heap.Ns b m->h'.Ns b m:=fun {b m} hb ⟨o',es,ep,ho',r⟩=>⟨o',es,ep,k b o' (fun e=>had b e hb) ho',r⟩
 have cellk:∀ {b v},s.heap.IsCell b v->h'.IsCell b v:=fun {b v} ⟨o',ho',hd'⟩=>⟨o',k b o' (fun e=>by
  obtain ⟨o,ho,md⟩:=hW b e
  rw [ho] at ho';cases ho'
  exact md.cell _ hd') ho',hd'⟩
 have hin:∀ b o,s.heap.get? b=some o->∃ o',h'.get? b=some o':=fun b o' hb=>by
  by_cases e:W b
  ·exact hex b e
  ·exact ⟨o',k b o' e hb⟩
 have varTo:∀ {z v},VarAt s.heap c.env z v->VarAt h' c.env z v:=fun {z v} hz=>by
  rcases hz with ⟨k1,m,hn,e⟩ | ⟨k1,b,hl,hc⟩
  ·exact .inl k1 m (nsne x.loc.1 hn) e
  ·exact .inr k1 b hl (cellk hc)
 refine ⟨⟨fun b ob hb=>?_,fun b hb=>?_,?_,x.locNew,fun n b hb=>?_,x.cellNew,fun b hb=>?_,x.ownNew,fun z j e hz he=>?_⟩,⟨⟨h',tk,rfl⟩,fun _ _ _ h=>h,fun b ob hb hst _ _ _=>k b ob (fun e=>?_) hb⟩,hin⟩
 ·have hne:¬ W b:=fun e=>by rw [x.ownNew b i (ha b e) hi] at hb;cases hb
  obtain ⟨h1,sl,h2⟩:=x.base b ob hb
  exact ⟨fun hf=>k b _ hne (h1 hf),sl,k b _ hne h2⟩
 ·obtain ⟨h1,m,h2⟩:=x.fr b hb
  exact ⟨h1,m,nsne h1 h2⟩
 ·obtain ⟨h1,m,h2⟩:=x.loc
  exact ⟨h1,m,nsne h1 h2⟩
 ·obtain ⟨v,h1⟩:=x.cell n b hb
  exact ⟨v,cellk h1⟩
 ·obtain ⟨o',ho'⟩:=x.ownIn b hb
  exact hin b o' ho'
 ·rcases set_get he with ⟨rfl,rfl⟩ | ⟨hne,he'⟩
  ·have:z=y:=nodup_fst ok.nodupI hz hm
   subst this
   exact ⟨_,varTo hv,by unfold VRd;rw [if_pos hi];exact r⟩
  ·obtain ⟨v,h1,h2⟩:=x.vars z j e hz he'
   refine ⟨v,varTo h1,h2.kp (mut_kps hW k fun b e h=>by have q:=ha b e;rw [h.2] at q;cases q) fun _=>mut_kps hW k fun b e h=>?_⟩
   have h:own b=some j:=h
   rw [ha b e] at h;cases h;exact hne rfl
 ·rcases hst with h | ⟨o1,vs,n,h1,h2,h3⟩
  ·rw [ha b e] at h;cases h
  ·obtain ⟨o,ho,md⟩:=hW b e
   rw [ho] at h1;cases h1
   exact md.tup h2 _ _ h3
theorem St.mutate (ok:CxOk c) (x:St c own ρ s) {y:Str} {i:Nat} (hi:i∈c.mv) (hm:(y,i)∈c.names) {a:Addr} (ha:own a=some i) (hv:VarAt s.heap c.env y (.ref a)) {o:Obj} (ho:s.heap.get? a=some o) (hd:ListOrDict o)
  {h':Heap} {tk:Nat} (k:∀ b o,b≠a->s.heap.get? b=some o->h'.get? b=some o) (hex:∃ o,h'.get? a=some o) {d':PV} (r:RdO h' (Fz c own) (fun b=>own b=some i) d' (.ref a)):
  St c own (ρ.set i (some d')) (up s (h') (tk))/\Evo c own own s (up s (h') (tk))/\∀ b o,s.heap.get? b=some o->∃ o',h'.get? b=some o':=
 x.mutates ok hi hm (W:=fun b=>b=a) (fun b e=>e ▸ ha) hv (fun b e=>⟨o,e ▸ ho,hd.mut⟩) k (fun b e=>e ▸ hex) r
end
section
variable {f:Fix} {cf:Nat->List PV->Res PV} {own:Addr->Option Nat} {ρ:Slots} {s s₁:Shared} {fr:Bool}
theorem own_list {i:Nat} (hi:i∈f.c.mv) {h:Heap} {l:List PV} {v:Value} (r:VRd h f.c own i (.list l) v):LAt h (fun a=>own a=some i) v l.length (Rds h (Fz f.c own) l):=by
 unfold VRd at r
 rw [if_pos hi] at r
 exact r
theorem own_dict {i:Nat} (hi:i∈f.c.mv) {h:Heap} {l:List (Key×PV)} {v:Value} (r:VRd h f.c own i (.dict l) v):DAt h (fun a=>own a=some i) v l (RdKV h (Fz f.c own) l):=by
 unfold VRd at r
 rw [if_pos hi] at r
 exact r
theorem VRd.grow {c:Cx} (ok:CxOk c) (x:St c own ρ s) {s':Shared} (g:Grow c.A s s') {i:Nat} {d:PV} {v:Value} (r:VRd s.heap c own i d v):VRd s'.heap c own i d v:=
 r.kp (x.kp (fun a h=>fz_dum h) g.h) fun hi=>x.kp (fun a h e=>by rw [h] at e;cases e;exact ok.dumNot hi) g.h
theorem slot_ok {α:Type} {ρ:Slots} {i:Nat} {g:PV->Res α} (h:(slot ρ i).bind g≠.stuck):∃ d,ρ[i]?=some (some d)/\(slot ρ i).bind g=g d:=by
 unfold slot at h ⊢
 split at h
 ·rename_i d hd
  exact ⟨d,hd,by simp [Res.bind]⟩
 ·exact absurd rfl h
theorem append_sound (F:FixOk f) {y:Str} {yp apos cpos pos:Pos} {e:Expr} {i:Nat} {a:PE} {k:Cl} (hd:(y==("__debug__" : Str))=false) (hm:(y,i)∈f.c.names) (hi:i∈f.c.mv) (hev:EvOK f cf e a k) (hk:k.inner=true) (hse:starred e=false)
  (hline:(apos.endLine==cpos.line)=true) (hint:interactive f.c.env=false):ExOK f cf fr (.Expr (.Call (.Attribute (.Name y yp) "append" apos) [e] [] cpos) pos) (.append i a):=by
 intro own ρ s x hn
 dsimp only [xE5] at hn ⊢
 obtain ⟨d0,hd0,e0⟩:=slot_ok hn
 rw [e0] at hn ⊢
 have hst:starEach [e] f.c.env=[(false,eval e f.c.env)]:=zD hse
 refine wpAny_Expr ?_ hint rfl
 refine wpAny_Call_method (T := "list") (id := "list.append") rfl ?_ hline PySem.F.plainAttrs_list PySem.F.slot_list_append PySem.F.type_list_append ?_
 ·rw [hst];rfl
 refine wpAny_Name (x.load' F.ok hm hd0 fun v hv hr=>?_) (by simpa using hd)
 rw [hst]
 have hl:∃ l,d0=.list l:=by
  cases d0 with
  | list l=>exact ⟨l,rfl⟩
  | _=>exact absurd rfl hn
 obtain ⟨l,rfl⟩:=hl
 dsimp only at hn ⊢
 obtain ⟨ad,vs,rfl,hown,⟨n,hs⟩,hlen,hrs⟩:=own_list hi hr
 refine ⟨⟨_,hs,rfl⟩,fun a' q=>by injection q with q;subst q;exact ⟨_,hs,rfl⟩,?_⟩
 refine P.append_list (hev.useX F x hn fun d v s₁ e1 e2 hn1 g1 x1 r1=>?_)
 rw [e2]
 obtain ⟨ad',vs',hq,hown',⟨n',hs'⟩,hlen',hrs'⟩:=own_list hi (VRd.grow F.ok x g1 hr)
 injection hq with hq;subst hq
 split at hn1
 ·rename_i hl1
  have hl2:l.length < lim:=of_decide_eq_true hl1
  have hsz:=hrs'.length
  rw [Array.length_toList] at hsz
  refine ⟨vs',n',?_,hs',?_⟩
  ·rw [hsz];exact Nat.le_trans hlen' (by decide)
  dsimp only
  have kk:∀ b o,b≠ad->s₁.heap.get? b=some o->(s₁.heap.update ad (Obj.mapSeq fun xs=>xs.push v)).get? b=some o:=fun b o hb ho=>((Heap.SameBut.update ..).2 b hb).trans ho
  obtain ⟨o',ho',hc',hd',hq'⟩:∃ o',(s₁.heap.update ad (Obj.mapSeq fun xs=>xs.push v)).get? ad=some o'/\o'={ cls:=.type "list",dict:=none,data:=.seq (vs'.push v) (Obj.mapSeq (fun xs=>xs.push v) { cls:=.type "list",dict:=none,data:=.seq vs' n',slots:=#[] } |> fun o=>match o.data with | .seq _ m=>m | _=>0),slots:=#[] }/\True/\True:=by
   refine ⟨_,Heap.get?_update_self _ hs' rfl,rfl,trivial,trivial⟩
  subst hc'
  have kpF:Kp (Fz f.c own) s₁.heap (s₁.heap.update ad (Obj.mapSeq fun xs=>xs.push v)):=mut_kp hs' (.inl ⟨_,_,rfl,rfl⟩) kk fun h=>by rw [h.2] at hown;cases hown
  obtain ⟨h1,h2,h3⟩:=x1.mutate F.ok hi hm hown (hv.grow g1.h) hs' (.inl ⟨_,_,rfl,rfl⟩) (tk:=s₁.toks) kk ⟨_,ho'⟩ (d':=.list (l++[d])) ⟨ad,vs'.push v,rfl,hown,⟨_,ho'⟩,by rw [List.length_append];exact hl2,by
   rw [Array.toList_push]
   exact Rds.append (Rds.to kpF l hrs') (Rds.one (Rd.to kpF d (r1.rd x hk)))⟩
  rw [if_pos hl1]
  exact ⟨_,own,rfl,h1,(Evo.grow g1).trans h2 g1.in_,fun b o hb=>let ⟨o1,ho1⟩:=g1.in_ b o hb;h3 b o1 ho1⟩
 ·exact absurd rfl hn1
theorem unpack_sound (F:FixOk f) {es:List Expr} {kd:Nat} {tp pos:Pos} {value:Expr} {is:List Nat} {a:PE} {k:Cl} (ht:TgtAt f.c (Names f.c) (.Tuple es kd tp) (.many is)) (hev:EvOK f cf value a k) (hk:k.inner=true)
  (hs:swapsWithSole [.Tuple es kd tp] value pos.line f.c.env=pure false) (hw:swappedStores [.Tuple es kd tp] value f.c.env=pure none):ExOK f cf fr (.Assign [.Tuple es kd tp] value pos) (.unpack is a):=by
 intro own ρ s x hn
 dsimp only [xE3] at hn ⊢
 refine Assign_Tuple (hev.useX F x hn fun d v s₁ e1 e2 hn1 g1 x1 r1=>?_) hs hw
 rw [e2]
 have hn2:setTgt (.many is) d ρ≠.stuck:=fun q=>hn1 (by rw [q];rfl)
 refine tgt_store (fun _ h=>h) F.ok F.ok.handled ht x1 (r1.rd x hk) hn2 fun ρ' s' e3 x' st=>?_
 rw [e3]
 exact ⟨ρ',own,rfl,x',(Evo.grow g1).trans (Evo.stored x1 (fun _ h=>h) st) g1.in_,fun b o hb=>let ⟨o1,ho1⟩:=g1.in_ b o hb;st.in_ x1 x' (fun _ h=>h) b o1 ho1⟩
theorem ret_sound (F:FixOk f) {e:Expr} {pos:Pos} {a:PE} {k:Cl} (hev:EvOK f cf e a k) (hk:(!fr||k==.fresh||k==.own)=true):ExOK f cf fr (.Return (some e) pos) (.ret a):=by
 intro own ρ s x hn
 dsimp only [xE11] at hn ⊢
 refine wpAny_Return_some (hev.useX F x hn fun d v s₁ e1 e2 hn1 g1 x1 r1=>?_)
 rw [e2]
 obtain ⟨h1,t1,rfl,k1⟩:=id g1
 refine ⟨d,rfl,⟨h1,t1,rfl⟩,x1.base,?_⟩
 unfold RetRd
 cases fr with
 | false=>
  rw [if_neg (by simp)]
  exact Rd.imp (fun a _ _ _ p=>p.1) d (r1.any x)
 | true=>
  rw [if_pos rfl]
  cases k with
  | fresh=>exact RdO.imp (fun a _ _ _ (p:s.heap.get? a=none)=>x.newBase p) (fun a _ _ _ p=>⟨p.1.1,p.2⟩) r1
  | own=>
   have key:∀ {a:Addr},v=.ref a->own a≠none->RdO h1 (Fz f.c own) (fun a=>f.c.h0.get? a=none/\own a≠some dum/\own a≠none) d v->RdO h1 (fun b=>(f.c.P0 b\/f.c.h0.get? b=none)/\v≠.ref b) (fun a=>f.c.h0.get? a=none) d v:=fun {a} hv ha r=>
    RdO.imp (fun a _ _ _ p=>p.1) (fun b _ _ _ p=>⟨p.1,fun e=>by rw [hv] at e;injection e with e;rw [e] at ha;exact ha p.2⟩) r
   cases d with
   | list l=>obtain ⟨a,_,hv,ha,_⟩:=id r1;exact key hv ha.2.2 r1
   | dict l=>obtain ⟨a,_,hv,ha,_⟩:=id r1;exact key hv ha.2.2 r1
   | obj th tu kd ff lf=>
    obtain ⟨xa,dx,la,t,m,vs,us,hv,ox,od,oa,ot,hx,ns,am,sk,ne,im,q,ln,rr,n1,lt,dq,dr⟩:=r1
    exact ⟨xa,dx,la,t,m,vs,us,hv,ox.1,od.1,oa.1,ot.1,hx,ns,am,sk,ne,im,q,ln,Rds.ofImm th im.1 rr,n1,lt,dq,RdKV.ofImm tu im.2 dr⟩
   | none=>exact r1
   | bool _=>exact r1
   | int _=>exact r1
   | str _=>exact r1
   | tuple l=>
    obtain ⟨a,vs,rfl,⟨n,hs⟩,hl,hr⟩:=r1
    refine ⟨a,vs,rfl,⟨n,hs⟩,hl,Rds.imp (fun b o ho hc p=>⟨p.1,fun q=>?_⟩) l hr⟩
    injection q with q;subst q
    rw [hs] at ho;cases ho
    rcases hc with (hc | hc) | hc | ⟨_,_,hc⟩<;>simp at hc
  | safe=>cases hk
  | any=>cases hk
theorem ExPost.mono {R:Res Out} {fl:Flow} {s':Shared} (h:Evo f.c own own s s₁) (hin:∀ b o,s.heap.get? b=some o->∃ o',s₁.heap.get? b=some o') (x:ExPost f fr R own s₁ fl s'):ExPost f fr R own s fl s':=by
 cases fl with
 | next=>
  obtain ⟨ρ',own',e,x',ev,hi⟩:=x
  exact ⟨ρ',own',e,x',h.trans ev hin,fun b o hb=>let ⟨o1,ho1⟩:=hin b o hb;hi b o1 ho1⟩
 | ret v=>
  obtain ⟨d,e,⟨h2,t2,rfl⟩,g,r⟩:=x
  obtain ⟨⟨h1,t1,rfl⟩,_⟩:=h
  exact ⟨d,e,⟨h2,t2,rfl⟩,g,r⟩
 | brk=>exact x
 | cont=>exact x
theorem ite_stmt_sound (F:FixOk f) {test:Expr} {body orelse:List Stmt} {pos:Pos} {c:PE} {a b:List PS} (hc:TrOK f cf test c) (ha:ExsOK f cf fr body a) (hb:ExsOK f cf fr orelse b):ExOK f cf fr (.If test body orelse pos) (.ite c a b):=by
 intro own ρ s x hn
 dsimp only [xE8] at hn ⊢
 refine wpAny_If (hc.use F x hn (fun d hd=>by cases d<;>first | rfl | exact absurd rfl (hd _)) fun t s₁ e1 e2 hn1 g1 x1=>?_)
 rw [e2]
 cases t with
 | true=>
  simp only [if_true] at hn1 ⊢
  exact wpAny_mono (ha own ρ s₁ x1 hn1) (fun fl s' q=>ExPost.mono (Evo.grow g1) g1.in_ q) fun _ _ q=>q.elim
 | false=>
  simp only [Bool.false_eq_true,if_false] at hn1 ⊢
  exact wpAny_mono (hb own ρ s₁ x1 hn1) (fun fl s' q=>ExPost.mono (Evo.grow g1) g1.in_ q) fun _ _ q=>q.elim
end
end Mine.Internal
end
section
namespace Mine.Internal
open PySem PySem.Spec PyProof.Rows
section
variable {A:Around} {s:Shared}
theorem forLoop_own {R:Result->Shared->Prop} {target it body env} (I:Nat->Shared->Prop)
  (turn:∀ n s,I n s->wpAny (model prog w) A (pyNext it) (fun r s₁=>match r with
   | none=>R (.ok .next) s₁
   | some v=>wpAny (model prog w) A (letOwnedTupleGo target it v) (fun _ s₁=>wpAny (model prog w) A (assign target env v) (fun _ s₂=>wpAny (model prog w) A (execs body env) (fun f s₃=>match f with
     | .next | .cont=>∃ m,m < n/\I m s₃
     | .brk=>R (.ok .next) s₃
     | .ret v=>R (.ok (.ret v)) s₃) (notedBy (model prog w) A env fun e s'=>R (.error e) s') s₂) (notedBy (model prog w) A env fun e s'=>R (.error e) s') s₁) (notedBy (model prog w) A env fun e s'=>R (.error e) s') s₁) (notedBy (model prog w) A env fun e s'=>R (.error e) s') s)
  (n:Nat) (h:I n s):codeAny (model prog w) A (.forLoop target it body [] env) R s:=by
 refine codeAny_loop' rfl I (fun n s hI=>?_) n h
 show wpAny _ _ ((forTurn target it body [] env).onRaise (fun x=>do noteFrame x env;theTreesLotGoes x)) _ _ s
 refine wpAny_noted ?_
 simp only [forTurn]
 refine wpAny_bind (wpAny_standAt (wpAny_bind (wpAny_onRaise (wpAny_mono (turn n s hI) (fun r s₁ h₁=>?_) fun _ _ h'=>wpAny_standAt h'))))
 cases r with
 | none=>exact wpAny_pure (.inr ⟨rfl,codeAny_block (wpAny_pure h₁)⟩)
 | some v=>
  refine wpAny_bind (wpAny_mono h₁ (fun _ s₁ h₁=>wpAny_bind (wpAny_mono h₁ (fun _ s₂ h₂=>wpAny_bind (wpAny_mono h₂ (fun f s₃ h₃=>?_) fun _ _ h'=>h')) fun _ _ h'=>h')) fun _ _ h'=>h')
  cases f with
  | next=>exact wpAny_pure (.inl ⟨rfl,h₃⟩)
  | cont=>exact wpAny_pure (.inl ⟨rfl,h₃⟩)
  | brk=>exact wpAny_pure h₃
  | ret v=>exact wpAny_pure h₃
end
section
variable {f:Fix} {cf:Nat->List PV->Res PV} {own:Addr->Option Nat} {ρ:Slots} {s s₁:Shared} {fr:Bool}
theorem Evo.loose {c:Cx} {own':Addr->Option Nat} (e:Evo c own own' s s₁) {wr:List Addr} {h':Heap} {tk:Nat} (k:∀ b o,b∉wr->s₁.heap.get? b=some o->h'.get? b=some o) (hw:∀ b∈wr,s.heap.get? b=none):Evo c own own' s (up s₁ (h') (tk)):=by
 obtain ⟨⟨h1,t1,rfl⟩,a1,b1⟩:=e
 exact ⟨⟨h',tk,rfl⟩,a1,fun b o hb h2 h3 h4 h5=>k b o (fun hm=>by rw [hw b hm] at hb;cases hb) (b1 b o hb h2 h3 h4 h5)⟩
theorem noExc_ok {α:Type} {r:Res α} (h:noExc r≠.stuck):∃ a,r=.ok a/\noExc r=.ok a:=by
 cases r with
 | ok a=>exact ⟨a,rfl,rfl⟩
 | stuck=>exact absurd rfl h
theorem for_loop (F:FixOk f) {target:Expr} {body:List Stmt} {tg:Tgt} {b:List PS} (hb:ExsOK f cf fr body b) (ht:TgtAt f.c (Names f.c) target tg) {I:Addr} {fp wr:List Addr} {ds:List PV} {S:Nat->Heap->Prop} {s₂:Shared} {P:Addr->Prop}
  (it:Itr f.c.A P I target fp wr ds S) (hPf:∀ a,P a->(f.c.P0 a\/f.c.h0.get? a=none)/\own a=none/\∃ o,s₂.heap.get? a=some o) (hS:S 0 s₂.heap) (g:Grow f.c.A s s₂) (hwr:∀ b∈wr,s.heap.get? b=none) (hstay:∀ b∈fp,Stay own s₂.heap b) (hfp:∀ b∈fp,b∉frs f.c.A/\b≠f.c.env.locals)
  (x:St f.c own ρ s) {R:Result->Shared->Prop} {out:Out} (hgo:forGo (fun ρ'=>exs cf ρ' b) tg ds ρ=.ok out)
  (hR:∀ fl s',ExPost f fr (.ok out) own s fl s'->R (.ok fl) s'):
  codeAny (model prog w) f.c.A (.forLoop target (.ref I) body [] f.c.env) R s₂:=by
 refine forLoop_own (fun n s'=>∃ i ρ' own',n=ds.length+1-i/\i<=ds.length/\St f.c own' ρ' s'/\S i s'.heap/\Evo f.c own own' s s'/\(∀ b o,s.heap.get? b=some o->∃ o',s'.heap.get? b=some o')/\(∀ b∈fp,Stay own' s'.heap b)/\(∀ a,P a->own' a=none/\∃ o,s'.heap.get? a=some o)/\(∀ b∈wr,own' b=none) /\
  forGo (fun ρ'=>exs cf ρ' b) tg (ds.drop i) ρ'=.ok out) ?_ (ds.length+1)
  ⟨0,ρ,own,rfl,Nat.zero_le _,x.grow F.ok g,hS,Evo.grow g,g.in_,hstay,fun a p=>(hPf a p).2,fun b hb=>x.newOwn (hwr b hb),by simpa using hgo⟩
 rintro n s1 ⟨i,ρ1,own1,rfl,hi,x1,hS1,ev1,in1,st1,p1,w1,hg1⟩
 have hrec:=it.rec_ i s1.heap hS1
 have hlive:=it.live i s1.heap hS1
 have loose:Loose f.c own1 s1 (fun b=>b∈wr):=fun b hb=>by
  obtain ⟨o,vs,ho,hd⟩:=hrec b hb
  exact ⟨x.newBase (hwr b hb),o,ho,.inl ⟨vs,hd⟩⟩
 rcases Nat.lt_or_ge i ds.length with hlt | hge
 ·have hd:ds[i]?=some ds[i]:=List.getElem?_eq_getElem hlt
  rw [List.drop_eq_getElem_cons hlt] at hg1
  generalize ds[i]=d at hd hg1
  simp only [forGo] at hg1
  refine it.turn' (fun _ _=>rfl) hd hS1 ?_
  intro v h2 tk2 hS2 hrd2 hk2
  have live2:=it.live (i+1) h2 hS2
  have x2:St f.c own1 ρ1 (up s1 (h2) (tk2)):=x1.change F.ok loose (fun b hb ho=>absurd (w1 b hb) ho) fun b o hb=>hk2 b o hb
  have ev2:Evo f.c own own1 s (up s1 (h2) (tk2)):=ev1.loose hk2 hwr
  have ex2:∀ b o,s1.heap.get? b=some o->∃ o',h2.get? b=some o':=fun b o hb=>by
   by_cases hw:b∈wr
   ·obtain ⟨o',ho',_⟩:=live2 b (it.sub b hw);exact ⟨o',ho'⟩
   ·exact ⟨o,hk2 b o hw hb⟩
  have st2:∀ b∈fp,Stay own1 h2 b:=fun b hb=>by
   by_cases hw:b∈wr
   ·exact .inl (w1 b hw)
   ·obtain ⟨o,ho,_⟩:=hlive b hb
    exact (st1 b hb).to ho (hk2 b o hw ho) id
  have hns:setTgt tg d ρ1≠.stuck:=fun q=>by rw [q] at hg1;cases hg1
  refine tgt_store (fun _ h=>h) F.ok F.ok.handled ht x2 (Rd.imp (fun a _ _ _ p=>⟨(hPf a p).1,(p1 a p).1⟩) d hrd2) hns fun ρ3 s3 e3 x3 sto3=>?_
  rw [e3] at hg1
  simp only [Res.bind] at hg1
  have kp3:Kp P h2 s3.heap:=sto3.kp x2 (fun _ h=>h) fun a p e=>by rw [(p1 a p).1] at e;cases e
  have evS:Evo f.c own1 own1 (up s1 (h2) (tk2)) s3:=Evo.stored x2 (fun _ h=>h) sto3
  have inS:=sto3.in_ x2 x3 (fun _ h=>h)
  have k3:∀ b∈fp,∀ o,h2.get? b=some o->s3.heap.get? b=some o:=fun b hb o ho=>by
   obtain ⟨o',ho',hnc⟩:=live2 b hb
   rw [ho] at ho';cases ho'
   exact evS.3 b o ho (st2 b hb) (hfp b hb).1 (hfp b hb).2 hnc
  have hS3:S (i+1) s3.heap:=it.frame _ _ _ hS2 k3 kp3
  have live3:=it.live (i+1) s3.heap hS3
  have st3:∀ b∈fp,Stay own1 s3.heap b:=fun b hb=>by
   obtain ⟨o,ho,_⟩:=live2 b hb
   exact (st2 b hb).to ho (k3 b hb o ho) id
  have ev3:Evo f.c own own1 s s3:=ev2.trans evS fun b o hb=>let ⟨o1,ho1⟩:=in1 b o hb;ex2 b o1 ho1
  have in3:∀ b o,s.heap.get? b=some o->∃ o',s3.heap.get? b=some o':=fun b o hb=>by
   obtain ⟨o1,ho1⟩:=in1 b o hb
   obtain ⟨o2,ho2⟩:=ex2 b o1 ho1
   exact inS b o2 ho2
  have hbn:exs cf ρ3 b≠.stuck:=fun q=>by rw [q] at hg1;cases hg1
  refine wpAny_mono (hb own1 ρ3 s3 x3 hbn) (fun fl s4 q=>?_) fun _ _ q=>q.elim
  ·cases fl with
   | next=>
    obtain ⟨ρ4,own4,e4,x4,ev4,in4⟩:=q
    rw [e4] at hg1
    simp only at hg1
    have k4:∀ b∈fp,∀ o,s3.heap.get? b=some o->s4.heap.get? b=some o:=fun b hb o ho=>by
     obtain ⟨o',ho',hnc⟩:=live3 b hb
     rw [ho] at ho';cases ho'
     exact ev4.3 b o ho (st3 b hb) (hfp b hb).1 (hfp b hb).2 hnc
    have p3:∀ a,P a->own1 a=none/\∃ o,s3.heap.get? a=some o:=fun a p=>by
     obtain ⟨h1,o1,ho1⟩:=p1 a p
     obtain ⟨o2,ho2⟩:=ex2 a o1 ho1
     exact ⟨h1,inS a o2 ho2⟩
    refine ⟨ds.length+1-(i+1),by exact o327 hi,i+1,ρ4,own4,rfl,hlt,x4,it.frame _ _ _ hS3 k4 (fun b o ho hm=>?_),ev3.trans ev4 in3,fun b o hb=>let ⟨o1,ho1⟩:=in3 b o hb;in4 b o1 ho1,fun b hb=>?_,fun a p=>?_,fun b hb=>?_,hg1⟩
    ·
     have hst:Stay own1 s3.heap b/\∀ v,o.data≠.cell v:=by
      rcases hm with ⟨vs,n,hd',hc | ⟨hp,hc⟩⟩ | ⟨es,n,hd',hp⟩ | ⟨hd',hp⟩
      ·exact ⟨.inr ⟨o,vs,n,ho,hc,hd'⟩,fun v q=>by rw [hd'] at q;cases q⟩
      ·exact ⟨.inl (p3 b hp).1,fun v q=>by rw [hd'] at q;cases q⟩
      ·exact ⟨.inl (p3 b hp).1,fun v q=>by rw [hd'] at q;cases q⟩
      ·exact ⟨.inl (p3 b hp).1,fun v q=>by rw [hd'] at q;cases q⟩
     have hnf:b∉frs f.c.A/\b≠f.c.env.locals:=by
      rcases hm with ⟨vs,n,hd',_⟩ | ⟨es,n,hd',hp⟩ | ⟨_,hp⟩
      ·exact x3.notFr ho fun es m q=>by rw [hd'] at q;cases q
      ·exact x3.notFrOwn fun q=>by rw [(p3 b hp).1] at q;cases q
      ·exact x3.notFrOwn fun q=>by rw [(p3 b hp).1] at q;cases q
     exact ev4.3 b o ho hst.1 hnf.1 hnf.2 hst.2
    ·obtain ⟨o,ho,_⟩:=live3 b hb
     exact (st3 b hb).to ho (k4 b hb o ho) fun h=>ev4.2 b o ho h
    ·obtain ⟨h1,o1,ho1⟩:=p3 a p
     exact ⟨ev4.2 a o1 ho1 h1,in4 a o1 ho1⟩
    ·obtain ⟨o,ho,_⟩:=live3 b (it.sub b hb)
     exact ev4.2 b o ho (w1 b hb)
   | ret v=>
    obtain ⟨d',e4,⟨h4,t4,rfl⟩,g4,r⟩:=q
    rw [e4] at hg1
    simp only at hg1
    cases hg1
    obtain ⟨⟨h5,t5,rfl⟩,_⟩:=ev3
    exact hR (.ret v) _ ⟨d',rfl,⟨h4,t4,rfl⟩,g4,r⟩
   | brk=>exact q.elim
   | cont=>exact q.elim
 ·have hi':i=ds.length:=by exact o157 hi hge
  subst hi'
  rw [List.drop_length] at hg1
  simp only [forGo] at hg1
  cases hg1
  refine it.done' (fun _=>rfl) hS1 fun h2 tk2 hk2=>?_
  have x2:St f.c own1 ρ1 (up s1 (h2) (tk2)):=x1.change F.ok loose (fun b hb ho=>absurd (w1 b hb) ho) fun b o hb=>hk2 b o hb
  refine hR .next _ ⟨ρ1,own1,rfl,x2,ev1.loose hk2 hwr,fun b o hb=>?_⟩
  obtain ⟨o1,ho1⟩:=in1 b o hb
  exact ⟨o1,hk2 b o1 (fun hm=>by rw [hwr b hm] at hb;cases hb) ho1⟩
theorem for_sound (F:FixOk f) {target iter:Expr} {tup:Bool} (htup:tup=true->∃ elts k pos,target=.Tuple elts k pos) {body:List Stmt} {pos:Pos} {tg:Tgt} {b:List PS} (hb:ExsOK f cf fr body b) (ht:TgtAt f.c (Names f.c) target tg)
  {kk:ItK} {src:List PE} {cl:Cl} (hit:ItOK f cf tup iter kk src cl) (hcl:cl.inner=true):
  ExOK f cf fr (.For target iter body [] pos) (.for_ tg kk src b):=by
 intro own ρ s x hn
 dsimp only [xE9] at hn ⊢
 have asc:((evs cf ρ src).bind fun xs=>(items kk xs).bind fun ds=>noExc (forGo (fun ρ'=>exs cf ρ' b) tg ds ρ))=((evs cf ρ src).bind (items kk)).bind fun ds=>noExc (forGo (fun ρ'=>exs cf ρ' b) tg ds ρ):=by cases evs cf ρ src<;>rfl
 rw [asc] at hn ⊢
 have hni:((evs cf ρ src).bind (items kk))≠.stuck:=fun q=>hn (by rw [q];rfl)
 refine wpAny_For (wpAny_mono (hit.2 htup ht.ok x hni) (fun xv s₁ q=>wpAny_mono q (fun it s₂ q=>?_) fun _ _ q=>q.elim) fun _ _ q=>q.elim) (hit.1 f.c.env)
 obtain ⟨ds,I,fp,wr,S,e1,rfl,itr,hS0,g,hwr,hstay,hlim,hfp⟩:=q
 rw [e1] at hn ⊢
 obtain ⟨out,ho,hoe⟩:=noExc_ok hn
 refine for_loop F hb ht itr (fun a p=>⟨p.1.1,p.1.2,p.2⟩) hS0 g hwr (hstay hcl) hfp x ho fun fl s' q=>?_
 show ExPost f fr ((Res.ok ds).bind fun ds=>noExc (forGo (fun ρ'=>exs cf ρ' b) tg ds ρ)) own s fl s'
 rw [show (Res.ok ds).bind (fun ds=>noExc (forGo (fun ρ'=>exs cf ρ' b) tg ds ρ))=.ok out from hoe]
 exact q
theorem while_sound (F:FixOk f) {test:Expr} {body:List Stmt} {pos:Pos} {c:PE} {b:List PS} (hc:TrOK f cf test c) (hb:ExsOK f cf fr body b):ExOK f cf fr (.While test body [] pos) (.while_ c b):=by
 intro own ρ s x hn
 dsimp only [xE10] at hn ⊢
 obtain ⟨out,ho,hoe⟩:=noExc_ok hn
 rw [hoe]
 refine wpAny_While (codeAny_whileLoop (fun n s'=>∃ ρ' own',St f.c own' ρ' s'/\Evo f.c own own' s s'/\(∀ b o,s.heap.get? b=some o->∃ o',s'.heap.get? b=some o')/\whileGo (fun ρ'=>ev cf ρ' c) (fun ρ'=>exs cf ρ' b) n ρ'=.ok out) ?_ fuel ⟨ρ,own,x,.refl,fun b o h=>⟨o,h⟩,ho⟩)
 rintro n s1 ⟨ρ1,own1,x1,ev1,in1,hg1⟩
 cases n with
 | zero=>cases hg1
 | succ n=>
  obtain ⟨G,hG,hGb,hGt,hGf⟩:∃ G:PV->Res Out,whileGo (fun ρ'=>ev cf ρ' c) (fun ρ'=>exs cf ρ' b) (n+1) ρ1=(ev cf ρ1 c).bind G/\(∀ d,(∀ b,d≠.bool b)->G d=.stuck) /\
    G (.bool true)=((exs cf ρ1 b).bind fun o=>match o with | .next ρ'=>whileGo (fun ρ'=>ev cf ρ' c) (fun ρ'=>exs cf ρ' b) n ρ' | .ret d=>.ok (.ret d))/\G (.bool false)=.ok (.next ρ1):=
   ⟨_,rfl,fun d hd=>by cases d<;>first | rfl | exact absurd rfl (hd _),rfl,rfl⟩
  rw [hG] at hg1
  have hn1:(ev cf ρ1 c).bind G≠.stuck:=fun q=>by rw [hg1] at q;cases q
  refine hc.use F x1 hn1 hGb fun t s2 e1 e2 hn2 g2 x2=>?_
  have hg2:=e2.symm.trans hg1
  have ev2:=ev1.trans (Evo.grow (own:=own1) g2) in1
  have in2:∀ b o,s.heap.get? b=some o->∃ o',s2.heap.get? b=some o':=fun b o hb=>let ⟨o1,ho1⟩:=in1 b o hb;g2.in_ b o1 ho1
  cases t with
  | false=>
   rw [hGf] at hg2
   cases hg2
   exact wpAny_pure ⟨ρ1,own1,rfl,x2,ev2,in2⟩
  | true=>
   rw [hGt] at hg2
   have hbn:exs cf ρ1 b≠.stuck:=fun q=>by rw [q] at hg2;cases hg2
   refine wpAny_mono (hb own1 ρ1 s2 x2 hbn) (fun fl s4 q=>?_) fun _ _ q=>q.elim
   ·cases fl with
    | next=>
     obtain ⟨ρ4,own4,e4,x4,ev4,in4⟩:=q
     rw [e4] at hg2
     exact ⟨n,Nat.lt_succ_self _,ρ4,own4,x4,ev2.trans ev4 in2,fun b o hb=>let ⟨o1,ho1⟩:=in2 b o hb;in4 b o1 ho1,hg2⟩
    | ret v=>
     obtain ⟨d',e4,⟨h4,t4,rfl⟩,g4,r⟩:=q
     rw [e4] at hg2
     cases hg2
     obtain ⟨⟨h5,t5,rfl⟩,_⟩:=ev2
     exact ⟨d',rfl,⟨h4,t4,rfl⟩,g4,r⟩
    | brk=>exact q.elim
    | cont=>exact q.elim
theorem nil_sound (F:FixOk f):ExsOK f cf fr [] []:=fun own ρ s x hn=>wpAny_pure ⟨ρ,own,rfl,x,.refl,fun b o h=>⟨o,h⟩⟩
theorem cons_sound (F:FixOk f) {st:Stmt} {r:List Stmt} {p:PS} {ps:List PS} (h1:ExOK f cf fr st p) (h2:ExsOK f cf fr r ps):ExsOK f cf fr (st::r) (p::ps):=by
 intro own ρ s x hn
 simp only [exsC] at hn ⊢
 have hn1:ex cf ρ p≠.stuck:=fun q=>hn (by rw [q];rfl)
 refine wpAny_execs_cons (wpAny_mono (h1 own ρ s x hn1) (fun fl s1 q=>?_) fun _ _ q=>q.elim)
 ·cases fl with
  | next=>
   obtain ⟨ρ1,own1,e1,x1,ev1,in1⟩:=q
   rw [e1] at hn ⊢
   have hsame:=ev1.1
   refine wpAny_mono (h2 own1 ρ1 s1 x1 hn) (fun fl s2 q=>?_) fun _ _ q=>q.elim
   ·cases fl with
    | next=>
     obtain ⟨ρ4,own4,e4,x4,ev4,in4⟩:=q
     exact ⟨ρ4,own4,e4,x4,ev1.trans ev4 in1,fun b o hb=>let ⟨o1,ho1⟩:=in1 b o hb;in4 b o1 ho1⟩
    | ret v=>
     obtain ⟨d',e4,⟨h4,t4,rfl⟩,g4,r⟩:=q
     obtain ⟨h5,t5,rfl⟩:=hsame
     exact ⟨d',e4,⟨h4,t4,rfl⟩,g4,r⟩
    | brk=>exact q.elim
    | cont=>exact q.elim
  | ret v=>
   obtain ⟨d',e4,r⟩:=q
   rw [e4]
   exact ⟨d',rfl,r⟩
  | brk=>exact q.elim
  | cont=>exact q.elim
end
end Mine.Internal
end
section
namespace Mine.Internal
open PySem PySem.Spec PyProof.Rows
section
variable {K:Type} [DecidableEq K] {knd:HeapKind prog w K} {A:Around} {E:Value->Shared->Prop} {s:Shared}
theorem dictSetHashed_heap {d a:Addr} {xs:List (K×Addr×Value)} {k:K} {v:Value} {Q:Unit->Shared->Prop} (hu:knd.room A) (hkey:knd.is s.heap k a) (hm:s.heap.DictOfH knd d xs)
  (hQ:∀ h',h'.DictOfH knd d (storedH xs k a v)->Heap.SameBut d s.heap h'->Q () { s with heap:=h' })
  (hsz:xs.length<=sizeLine):
  wpAny (model prog w) A (dictSetHashed d (.ref a) (knd.hash k) v) Q E s:=by
 obtain ⟨o,es,ep,ho,hc,hd,he,his,hn⟩:=hm
 unfold dictSetHashed
 try with_reducible refine wpAny_holding ?_
 refine wpAny_bind (wpAny_dictFind_heap hu hkey ho hd he his hn ?_ ?_)
 ·intro hno
  have hnot:k∉xs.map (·.1):=not_mem_keys_of_get hno
  refine wpAny_bind (wpAny_rule (wpAny_updateDictKeys (hz:=by have e:=size_of_entries he;exact o333 hsz e) ho hd (hQ _ ⟨_,_,ep+1,Heap.get?_update_self _ ho (Obj.isFreed_of_dict (Obj.data_mapDictKeys hd _)),
   hc.mapDictKeys _,Obj.data_mapDictKeys hd _,?_,?_,?_⟩ (Heap.SameBut.update ..))))
  ·rw [storedH_new (atKey_none_of_get hno)]
   simp [he,entryOfKey]
  ·rw [storedH_new (atKey_none_of_get hno)]
   intro x hx
   rcases List.mem_append.mp hx with hx | hx
   ·exact knd.keeps (his x hx) ho hd (Heap.SameBut.update ..)
   ·simp only [List.mem_singleton] at hx
    subst hx
    exact knd.keeps hkey ho hd (Heap.SameBut.update ..)
  ·rw [storedH_new (atKey_none_of_get hno)]
   rw [List.map_append,List.nodup_append]
   refine ⟨hn,by simp,?_⟩
   intro x hx y hy
   simp only [List.map_cons,List.map_nil,List.mem_singleton] at hy
   subst hy
   exact fun e=>hnot (e ▸ hx)
 ·intro j p hj
  refine wpAny_bind (wpAny_rule (wpAny_bind (wpAny_updateDict ho hd (wpAny_point (hQ _ ⟨_,_,ep,Heap.get?_update_self _ ho (Obj.isFreed_of_dict (Obj.data_mapDict hd _)),
   hc.mapDict _,Obj.data_mapDict hd _,?_,?_,?_⟩ (Heap.SameBut.update ..))))))
  ·rw [storedH_old (atKey_of_get hn hj)]
   have:=modify_map_putAt (entryOfKey knd) (fun e:DictEntry=>{ e with val:=v }) k v (fun _ _=>rfl) hn hj
   rw [<-he] at this
   obtain ⟨l⟩:=es
   simpa using this
  ·rw [storedH_old (atKey_of_get hn hj)]
   intro x hx
   obtain ⟨y,hy,rfl⟩:=List.mem_map.mp hx
   unfold putAt
   split<;>exact knd.keeps (his y hy) ho hd (Heap.SameBut.update ..)
  ·rw [storedH_old (atKey_of_get hn hj)]
   rw [keys_map_putAt];exact hn
noncomputable def mergedH (xs more:List (K×Addr×Value)):List (K×Addr×Value):=more.foldl (fun acc x=>storedH acc x.1 x.2.1 x.2.2) xs
theorem mergedH_take_succ (xs more:List (K×Addr×Value)) (i:Nat) (x:K×Addr×Value) (h:more[i]?=some x):mergedH xs (more.take (i+1))=storedH (mergedH xs (more.take i)) x.1 x.2.1 x.2.2:=by
 simp [mergedH,List.take_add_one,h,List.foldl_append]
theorem storedH_length_le (xs:List (K×Addr×Value)) (k:K) (a:Addr) (v:Value):(storedH xs k a v).length<=xs.length+1:=by
 unfold storedH;split<;>simp
theorem mergedH_length_le (xs more:List (K×Addr×Value)):(mergedH xs more).length<=xs.length+more.length:=by
 induction more generalizing xs with
 | nil=>simp [mergedH]
 | cons x rest ih=>
  have e1:=ih (storedH xs x.1 x.2.1 x.2.2)
  have e2:=storedH_length_le xs x.1 x.2.1 x.2.2
  simp only [mergedH,List.foldl_cons,List.length_cons] at e1 ⊢
  exact o332 e1 e2
theorem mergedH_fresh (acc more:List (K×Addr×Value)) (hn:((acc++more).map (·.1)).Nodup):mergedH acc more=acc++more:=by
 induction more generalizing acc with
 | nil=>simp [mergedH]
 | cons x rest ih=>
  have hfresh:atKey acc x.1=none:=by
   refine atKey_none_of_get fun j p hj=>?_
   rw [List.map_append,List.map_cons,List.nodup_append] at hn
   exact hn.2.2 x.1 (List.mem_map.mpr ⟨_,List.mem_of_getElem? hj,rfl⟩) x.1 List.mem_cons_self rfl
  have:mergedH acc (x::rest)=mergedH (acc++[x]) rest:=by
   simp only [mergedH,List.foldl_cons,storedH_new hfresh]
  rw [this,ih (acc++[x]) (by simpa using hn)]
  simp
theorem filter_one {α:Type} {g:α->Int} {c:Int}:∀ {l:List α},(l.map g).Nodup->(l.filter fun x=>g x==c).length<=1
 | [],_=>by simp
 | x::l,h=>by
  simp only [List.map_cons,List.nodup_cons] at h
  have ih:=filter_one (c:=c) h.2
  by_cases hx:(g x==c)=true
  ·have:l.filter (fun x=>g x==c)=[]:=by
    rw [List.filter_eq_nil_iff]
    intro y hy hq
    exact h.1 (List.mem_map.mpr ⟨y,hy,(eq_of_beq hq).trans (eq_of_beq hx).symm⟩)
   rw [List.filter_cons,if_pos hx,this];simp
  ·rw [List.filter_cons,if_neg hx];exact ih
end
section
variable {A:Around} {E:Value->Shared->Prop} {s:Shared}
noncomputable abbrev tk:HeapKind prog w (List Int):=tupleKind (intKind prog w)
theorem entriesForEmpty_heap {id:String} {d:Addr} {o:Obj} {es ep} {xs:List (List Int×Addr×Value)} {Q:Array DictEntry->Shared->Prop} (ho:s.heap.get? d=some o) (hd:o.data=.dict es ep) (he:es.toList=xs.map (entryOfKey (tk)))
  (his:∀ x∈xs,(tk).is s.heap x.1 x.2.1) (hh:(xs.map fun x=>(tk).hash x.1).Nodup) (h:Q es s):
  wpAny (model prog w) A (Builtin.Dict.entriesForEmpty id d) Q E s:=by
 unfold Builtin.Dict.entriesForEmpty
 refine wpAny_bind (wpAny_dictEntries ho hd ?_)
 refine wpAny_bind ?_
 rw [<-Array.forIn_toList]
 refine wpAny_forIn_list _ (fun rest _ s'=>s'=s/\∀ e∈rest,e∈es.toList) _ ?_ ?_ _ _ ⟨rfl,fun e h=>h⟩
 ·rintro e rest b s' ⟨rfl,hr⟩
  have hm:=hr e List.mem_cons_self
  rw [he] at hm
  obtain ⟨x,hx,rfl⟩:=List.mem_map.mp hm
  obtain ⟨o',it,n,ho',hc',_⟩:=his x hx
  refine wpAny_bind ?_
  show wpAny _ _ (do return (<-specialOf (.ref x.2.1) "__eq__")==some (.builtin "object.__eq__")) _ _ s'
  refine wpAny_bind (wpAny_specialOf ⟨o',ho',hc'⟩ F.slot_tuple_eq.lookup (wpAny_pure ?_))
  have hsz:¬ (es.filter (fun y=>y.hash==(entryOfKey (tk) x).hash)).size > 1:=by
   have h1:(es.filter (fun y=>y.hash==(entryOfKey (tk) x).hash)).size=(es.toList.filter (fun y=>y.hash==(entryOfKey (tk) x).hash)).length:=by
    rw [<-Array.length_toList,Array.toList_filter]
   rw [h1,he,List.filter_map,List.length_map]
   have:=filter_one (g:=fun x:List Int×Addr×Value=>(tk).hash x.1) (c:=(tk).hash x.1) hh
   exact Nat.not_lt.mpr this
  have hq:(some (Value.builtin "tuple.__eq__")==some (Value.builtin "object.__eq__"))=false:=by decide
  rw [hq]
  simp only [Bool.not_false,if_true,if_neg hsz]
  exact wpAny_pure ⟨rfl,fun e h=>hr e (List.mem_cons_of_mem _ h)⟩
 ·rintro b s' ⟨rfl,_⟩
  exact wpAny_pure h
theorem is_keeps {h h':Heap} {d:Addr} {o:Obj} {es ep} {xs:List (List Int×Addr×Value)} (ho:h.get? d=some o) (hd:o.data=.dict es ep) (hs:Heap.SameBut d h h') (hx:∀ x∈xs,(tk).is h x.1 x.2.1):∀ x∈xs,(tk).is h' x.1 x.2.1:=
 fun x hm=>(tk).keeps (hx x hm) ho hd hs
theorem mergeDict_heap {nm:String} {d o:Addr} {xs more:List (List Int×Addr×Value)} {Q:Unit->Shared->Prop} (hu:(tk).room A) (hdo:d≠o) (hoS:(o==sysModules)=false)
  (hd:s.heap.DictOfH (tk) d xs) (ho:s.heap.DictOfH (tk) o more) (hh:xs=[]->(more.map fun x=>(tk).hash x.1).Nodup)
  (hQ:∀ h',h'.DictOfH (tk) d (mergedH xs more)->Heap.SameBut d s.heap h'->Q () { s with heap:=h' })
  (hsz:xs.length+more.length<=sizeLine):
  wpAny (model prog w) A (Builtin.Dict.mergeDict nm d o) Q E s:=by
 obtain ⟨od,esd,epd,hod,hcd,hdd,hed,hid,hnd⟩:=id hd
 obtain ⟨oo,eso,epo,hoo,hco,hdo',heo,hio,hno⟩:=id ho
 unfold Builtin.Dict.mergeDict
 rw [if_neg (by simpa using hdo)]
 unfold Builtin.Dict.showsAll
 rw [if_neg (by rw [hoS];exact Bool.false_ne_true)]
 refine wpAny_bind (wpAny_pure ?_)
 refine wpAny_bind (wpAny_dictEntries hoo hdo' ?_)
 have hlen:more.length=eso.size:=(size_of_entries heo).symm
 have loop:wpAny (model prog w) A (do
   let epoch <-dictEpoch o
   let l <-dictEntries o
   forIn [:l.size] PUnit.unit fun i (_:PUnit)=>(do
     let l' <-dictEntries o
     match l'[i]? with
      | some e=>do
       holding [e.key,e.val] (dictSetHashed d e.key e.hash e.val)
       let ep' <-dictEpoch o
       if (ep' != epoch)=true then do
         (unsupported (toString nm++toString ":source-changed-during-callback"):Sem PUnit)
         pure (ForInStep.yield PUnit.unit)
        else pure (ForInStep.yield PUnit.unit)
      | _=>do
       (unsupported "internal:dict-merge" : Sem PUnit)
       pure (ForInStep.yield PUnit.unit):Sem (ForInStep PUnit))
   pure ()) Q E s:=by
  refine wpAny_bind (wpAny_dictEpoch hoo hdo' ?_)
  refine wpAny_bind (wpAny_dictEntries hoo hdo' ?_)
  refine wpAny_bind ?_
  rw [Std.Legacy.Range.forIn_eq_forIn_range']
  simp only [Std.Legacy.Range.size,Nat.sub_zero,Nat.add_sub_cancel,Nat.div_one]
  refine wpAny_forIn_list _
   (fun rest _ s'=>∃ h' i,s'={ s with heap:=h' }/\rest=List.range' i (eso.size-i)/\i<=eso.size/\h'.DictOfH (tk) d (mergedH xs (more.take i))/\h'.get? o=some oo/\Heap.SameBut d s.heap h')
   _ ?_ ?_ _ _ ⟨s.heap,0,rfl,by simp,Nat.zero_le _,by simpa [mergedH] using hd,hoo,Heap.SameBut.refl _ _⟩
  ·rintro x rest b s' ⟨h',i,rfl,hr,hi,hd',hoo',hs'⟩
   have hlt:i < eso.size:=by
    rcases Nat.lt_or_ge i eso.size with h | h
    ·exact h
    ·rw [Nat.sub_eq_zero_of_le h] at hr;simp at hr
   obtain ⟨rfl,hrest⟩:x=i/\rest=List.range' (i+1) (eso.size-(i+1)):=by
    have e:eso.size-i=(eso.size-(i+1))+1:=by exact o12 hlt
    rw [e,List.range'_succ] at hr
    injection hr with h1 h2
    exact ⟨h1,h2⟩
   refine wpAny_bind (wpAny_dictEntries hoo' hdo' ?_)
   have hx:more[x]?=some (more[x]'(by rw [hlen];exact hlt)):=List.getElem?_eq_getElem _
   generalize more[x]'(by rw [hlen];exact hlt)=kv at hx
   have hes:eso[x]?=some (entryOfKey (tk) kv):=by rw [entry_at heo x,hx];rfl
   rw [hes]
   have hmx:(mergedH xs (more.take x)).length<=sizeLine:=by
    have e1:=mergedH_length_le xs (more.take x)
    have e2:(more.take x).length<=more.length:=by rw [List.length_take];exact o334
    exact o335 hsz e1 e2
   have hkey:(tk).is h' kv.1 kv.2.1:=is_keeps hod hdd hs' hio kv (List.mem_of_getElem? hx)
   refine wpAny_bind (wpAny_holding (dictSetHashed_heap (knd:=tk) hu hkey hd' (fun h'' hd'' hs''=>?_) hmx))
   have hoo'':h''.get? o=some oo:=(hs''.2 o (Ne.symm hdo)).trans hoo'
   refine wpAny_bind (wpAny_dictEpoch hoo'' hdo' ?_)
   rw [if_neg (by simp)]
   exact wpAny_pure ⟨h'',x+1,rfl,hrest,hlt,by rw [mergedH_take_succ xs more x kv hx];exact hd'',hoo'',hs'.trans hs''⟩
  ·rintro b s' ⟨h',i,rfl,hr,hi,hd',hoo',hs'⟩
   have hin:i=eso.size:=by
    rcases Nat.lt_or_ge i eso.size with h | h
    ·have e:eso.size-i=(eso.size-(i+1))+1:=by exact o12 h
     rw [e,List.range'_succ] at hr;exact nomatch hr
    ·exact Nat.le_antisymm hi h
   refine wpAny_pure (hQ h' ?_ hs')
   rw [hin,<-hlen,List.take_length] at hd';exact hd'
 dsimp only
 split
 ·refine wpAny_bind (wpAny_dictEntries hod hdd ?_)
  split
  ·rename_i hemp
   have hkvs:xs=[]:=by
    have h0:esd=#[]:=Array.isEmpty_iff.mp hemp
    have:=size_of_entries hed;rw [h0] at this;exact List.length_eq_zero_iff.mp (by simpa using this.symm)
   have hh':=hh hkvs
   subst hkvs
   refine wpAny_bind (entriesForEmpty_heap hoo hdo' heo hio hh' ?_)
   rw [mergedH_fresh [] more (by simpa using hno),List.nil_append] at hQ
   split
   ·have hto:eso.size<=sizeLine+1:=by
     simp only [List.length_nil,Nat.zero_add] at hsz
     exact o336 hlen hsz
    have hsb:Heap.SameBut d s.heap (s.heap.update d (Obj.mapDictKeys fun _=>eso)):=Heap.SameBut.update ..
    refine wpAny_bind (wpAny_updateDictKeysTo hod hdd (wpAny_pure (hQ _ ⟨_,_,epd+1,Heap.get?_update_self _ hod (Obj.isFreed_of_dict (Obj.data_mapDictKeys hdd _)),hcd.mapDictKeys _,
     Obj.data_mapDictKeys hdd _,heo,is_keeps hod hdd hsb hio,hno⟩ hsb)) hto)
   ·rename_i hne
    have h0:eso=#[]:=Array.isEmpty_iff.mp (by simpa using hne)
    have hm0:more=[]:=List.length_eq_zero_iff.mp (by rw [hlen,h0];rfl)
    subst hm0
    exact wpAny_pure (hQ _ hd (Heap.SameBut.refl _ _))
  ·exact loop
 ·exact loop
theorem meets_update_heap (d o:Addr) (hdo:d≠o) (hoS:(o==sysModules)=false):
  MeetsIn prog w (Builtin.«dict.update» ⟨[.ref d,.ref o],[]⟩) (fun A R s=>(tk).room A.in1/\∃ xs more,s.heap.DictOfH (tk) d xs/\s.heap.DictOfH (tk) o more/\(xs=[]->(more.map fun x=>(tk).hash x.1).Nodup)/\xs.length+more.length<=sizeLine /\
   ∀ h',h'.DictOfH (tk) d (mergedH xs more)->Heap.SameBut d s.heap h'->R (.ok (.ret .none)) { s with heap:=h' }):=
 .of_wp fun A R s ⟨hu,kvs,more,hd,ho,hh,hsz,h⟩=>by
  unfold Builtin.«dict.update»
  refine wpAny_bind ?_
  unfold Builtin.Dict.selfAndRest
  refine wpAny_bind (wpAny_notOrdered_dict hd.typeIs ?_)
  show wpAny _ _ (pure (d,[Value.ref o])) _ _ s
  refine wpAny_pure ?_
  show wpAny _ _ (Builtin.Dict.updateFrom "dict.update" d (.ref o) [] .none) _ _ s
  unfold Builtin.Dict.updateFrom
  refine wpAny_bind (wpAny_typeOf ho.typeIs ?_)
  rw [if_neg (by decide)]
  refine wpAny_bind ?_
  unfold Builtin.Dict.merge
  refine wpAny_bind ?_
  ·unfold Builtin.Dict.readDirectly
   refine wpAny_bind (wpAny_isInstance ho.typeIs isSubtype_dict_dict ?_)
   simp only [Bool.not_true,Bool.false_eq_true,if_false]
   refine wpAny_bind (wpAny_specialOf ho.typeIs F.slot_dict_iter.lookup (wpAny_pure ?_))
   simp only [beq_self_eq_true,if_true]
   refine wpAny_bind (wpAny_pure ?_)
   refine mergeDict_heap hu hdo hoS hd ho hh (fun h' hd' hs'=>?_) hsz
   show wpAny _ _ (Builtin.Dict.addKeywords d [] >>= _) _ _ _
   exact wpAny_bind (wpAny_pure (wpAny_pure ⟨.none,rfl,h h' hd' hs'⟩))
end
end Mine.Internal
end
section
namespace Mine.Internal
open PySem PySem.Spec PyProof.Rows
section
variable {h:Heap} {P:Addr->Prop}
theorem dput_len (l:List (Key×PV)) (k:Key) (d:PV):(dput l k d).length<=l.length+1:=by unfold dput;split<;>simp
theorem dupd_len (l m:List (Key×PV)):(dupd l m).length<=l.length+m.length:=by
 induction m generalizing l with
 | nil=>simp [dupd]
 | cons p m ih=>
  have e1:=ih (dput l p.1 p.2)
  have e2:=dput_len l p.1 p.2
  simp only [dupd,List.foldl_cons,List.length_cons] at e1 ⊢
  exact o332 e1 e2
theorem dput_pair {α:Type} {g:α->Key} {val:α->Value} {k:Key} {d:PV} {v:Value} {put:α->α} {has:Bool} {new:α} (hd:Rd h P d v) (hput:∀ x,g (put x)=g x/\val (put x)=if g x=k then v else val x) (hnew:g new=k/\val new=v):
  ∀ {l:List (Key×PV)} {xs:List α},l.map (·.1)=xs.map g->RdKV h P l (xs.map val) ->
   (l.map fun p=>if p.1=k then (p.1,d) else p).map (·.1)=(xs.map put).map g/\RdKV h P (l.map fun p=>if p.1=k then (p.1,d) else p) ((xs.map put).map val) /\
   (l++[(k,d)]).map (·.1)=(xs++[new]).map g/\RdKV h P (l++[(k,d)]) ((xs++[new]).map val)
 | [],xs,e,r=>by
  cases xs with
  | nil=>exact ⟨rfl,rfl,by simp [hnew.1],⟨v,[],by simp [hnew.2],hd,rfl⟩⟩
  | cons _ _=>simp at e
 | (k',d')::l,xs,e,r=>by
  cases xs with
  | nil=>simp at e
  | cons x xs=>
   simp only [List.map_cons,List.cons.injEq] at e
   obtain ⟨v',r',e2,a,b⟩:=r
   simp only [List.map_cons,List.cons.injEq] at e2
   obtain ⟨rfl,rfl⟩:=e2
   obtain ⟨h1,h2,h3,h4⟩:=dput_pair (has:=has) hd hput hnew e.2 b
   obtain ⟨p1,p2⟩:=hput x
   refine ⟨?_,?_,?_,?_⟩
   ·simp only [List.map_cons,List.cons.injEq]
    refine ⟨?_,h1⟩
    rw [p1,<-e.1];split<;>rfl
   ·simp only [List.map_cons]
    rw [p2,<-e.1]
    split
    ·exact ⟨v,_,rfl,hd,h2⟩
    ·exact ⟨val x,_,rfl,a,h2⟩
   ·simp only [List.cons_append,List.map_cons,List.cons.injEq]
    exact ⟨e.1,h3⟩
   ·exact ⟨val x,_,rfl,a,h4⟩
theorem dput_int {i:Int} {d:PV} {v:Value} (hd:Rd h P d v) {l:List (Key×PV)} {kvs:List (Int×Value)} (e:l.map (·.1)=kvs.map (fun p=>Key.int p.1)) (r:RdKV h P l (kvs.map (·.2))):
  (dput l (.int i) d).map (·.1)=(stored kvs i v).map (fun p=>Key.int p.1)/\RdKV h P (dput l (.int i) d) ((stored kvs i v).map (·.2)):=by
 obtain ⟨h1,h2,h3,h4⟩:=dput_pair (g:=fun p:Int×Value=>Key.int p.1) (val:=(·.2)) (k:=.int i) (put:=fun kv=>if kv.1=i then (kv.1,v) else kv) (has:=true) (new:=(i,v)) hd
  (fun x=>by by_cases q:x.1=i<;>simp [q]) ⟨rfl,rfl⟩ e r
 have hany:dhas l (.int i)=kvs.any (fun kv=>kv.1=i):=by
  have hv:=(valueAt_dget (i:=i) e r).1
  rw [hv]
  clear hv h1 h2 h3 h4 e r
  induction kvs with
  | nil=>rfl
  | cons p ps ih=>
   by_cases q:p.1=i
   ·simp [valueAt,q]
   ·simp only [List.any_cons,q,decide_false,Bool.false_or]
    rw [<-ih]
    simp [valueAt,q]
 unfold dput stored
 rw [hany]
 split
 ·exact ⟨h1,h2⟩
 ·exact ⟨h3,h4⟩
theorem dput_tup {i:List Int} {d:PV} {v:Value} {a:Addr} (hd:Rd h P d v) {l:List (Key×PV)} {xs:List (List Int×Addr×Value)} (e:l.map (·.1)=xs.map (fun p=>Key.tup p.1)) (r:RdKV h P l (xs.map (·.2.2))):
  (dput l (.tup i) d).map (·.1)=(storedH xs i a v).map (fun p=>Key.tup p.1)/\RdKV h P (dput l (.tup i) d) ((storedH xs i a v).map (·.2.2)):=by
 obtain ⟨h1,h2,h3,h4⟩:=dput_pair (g:=fun p:List Int×Addr×Value=>Key.tup p.1) (val:=(·.2.2)) (k:=.tup i) (put:=putAt i v) (has:=true) (new:=(i,a,v)) hd
  (fun x=>by unfold putAt;by_cases q:x.1=i<;>simp [q]) ⟨rfl,rfl⟩ e r
 have hany:dhas l (.tup i)=(atKey xs i).isSome:=(atKey_dget (i:=i) e r).1
 unfold dput storedH
 rw [hany]
 split
 ·exact ⟨h1,h2⟩
 ·exact ⟨h3,h4⟩
theorem dupd_tup:∀ {m:List (Key×PV)} {more:List (List Int×Addr×Value)} {l:List (Key×PV)} {xs:List (List Int×Addr×Value)},m.map (·.1)=more.map (fun p=>Key.tup p.1)->RdKV h P m (more.map (·.2.2))->l.map (·.1)=xs.map (fun p=>Key.tup p.1)->RdKV h P l (xs.map (·.2.2)) ->
  (dupd l m).map (·.1)=(mergedH xs more).map (fun p=>Key.tup p.1)/\RdKV h P (dupd l m) ((mergedH xs more).map (·.2.2))
 | [],more,l,xs,e,r,e',r'=>by
  cases more with
  | nil=>exact ⟨e',r'⟩
  | cons _ _=>simp at e
 | (k,d)::m,more,l,xs,e,r,e',r'=>by
  cases more with
  | nil=>simp at e
  | cons x more=>
   simp only [List.map_cons,List.cons.injEq] at e
   obtain ⟨v',r1,e2,a,b⟩:=r
   simp only [List.map_cons,List.cons.injEq] at e2
   obtain ⟨rfl,rfl⟩:=e2
   obtain ⟨rfl,e3⟩:=e
   obtain ⟨h1,h2⟩:=dput_tup (i:=x.1) (a:=x.2.1) a e' r'
   have:=dupd_tup e3 b h1 h2
   exact this
theorem TKs.stored {xs:List (List Int×Addr×Value)} {i:List Int} {a:Addr} {v:Value} (x:TKs h xs) (q:∃ us,SeqAt h "tuple" a us/\us.size<=lim):TKs h (storedH xs i a v):=fun y hy=>by
 unfold storedH at hy
 split at hy
 ·obtain ⟨z,hz,rfl⟩:=List.mem_map.mp hy
  unfold putAt
  split<;>exact x z hz
 ·rcases List.mem_append.mp hy with hy | hy
  ·exact x y hy
  ·rw [List.mem_singleton.mp hy];exact q
theorem TKs.merged:∀ {more xs:List (List Int×Addr×Value)},TKs h xs->TKs h more->TKs h (mergedH xs more)
 | [],_,x,_=>x
 | p::more,xs,x,q=>TKs.merged (more:=more) (x.stored (q p List.mem_cons_self)) fun y hy=>q y (List.mem_cons_of_mem _ hy)
theorem TKs.but {h':Heap} {xs:List (List Int×Addr×Value)} {d:Addr} {o:Obj} {es n} (x:TKs h xs) (ho:h.get? d=some o) (hd:o.data=.dict es n) (hs:Heap.SameBut d h h'):TKs h' xs:=fun y hy=>by
 obtain ⟨us,⟨m,q⟩,l⟩:=x y hy
 refine ⟨us,⟨m,(hs.2 _ fun e=>?_).trans q⟩,l⟩
 rw [e,ho] at q;cases q;cases hd
theorem dictRep_obj {a:Addr} {ks:List Key} {vs:List Value} (x:DictRep h a ks vs):∃ o es n,h.get? a=some o/\o.data=.dict es n/\o.cls=.type "dict" /\ o.dict=none:=by
 rcases x with ⟨_,⟨o,es,ep,ho,hx,hd,_⟩,_⟩ | ⟨_,⟨o,es,ep,ho,hx,hd,_⟩,_⟩<;>exact ⟨o,es,ep,ho,hd,hx.1,hx.2.1⟩
end
section
variable {f:Fix} {cf:Nat->List PV->Res PV} {own:Addr->Option Nat} {ρ:Slots} {s s₁:Shared} {fr:Bool}
theorem setItem_sound (F:FixOk f) {y:Str} {yp sp pos:Pos} {ix value:Expr} {i:Nat} {a b:PE} {k kb:Cl} (hd:(y==("__debug__" : Str))=false) (hm:(y,i)∈f.c.names) (hi:i∈f.c.mv) (hev:EvOK f cf value a k) (hk:k.inner=true) (heb:EvOK f cf ix b kb) (hkb:kb.inner=true)
  (hs:swapsWith value (some (.Subscript (.Name y yp) ix sp)) pos.line f.c.env=pure false):ExOK f cf fr (.Assign [.Subscript (.Name y yp) ix sp] value pos) (.setItem i b a):=by
 intro own ρ s x hn
 dsimp only [xE4] at hn ⊢
 refine wpAny_Assign_Subscript (hev.useX F x hn fun d v s₁ e1 e2 hn1 g1 x1 r1=>?_) hs
 rw [e2]
 obtain ⟨d0,hd0,e0⟩:=slot_ok hn1
 rw [e0] at hn1 ⊢
 refine wpAny_Name (x1.load' F.ok hm hd0 fun v0 hv hr=>?_) (by simpa using hd)
 have hl:∃ l,d0=.dict l:=by
  cases d0 with
  | dict l=>exact ⟨l,rfl⟩
  | _=>exact absurd rfl hn1
 obtain ⟨l,rfl⟩:=hl
 dsimp only at hn1 ⊢
 have hsame:∃ h' tk,s₁=(up s (h') (tk)):=let ⟨h1,t1,e,_⟩:=g1;⟨h1,t1,e⟩
 refine heb.use F x1 hn1 fun kd kv s₂ e3 e4 hn2 g2 x2 r2=>?_
 ·rw [e4]
  obtain ⟨ad,vs,hv0,hown,ha1,hlen,hq,hrkv⟩:=own_dict hi (VRd.grow F.ok x1 g2 hr)
  subst hv0
  have hval:Rd s₂.heap (Fz f.c own) d v:=Rd.to (x1.kp (fun a h=>fz_dum h) g2.h) d (r1.rd x hk)
  have hkey:=r2.rd x1 hkb
  split at hn2
  ·rename_i kk hkk
   split at hn2
   ·rename_i hc
    rw [if_pos hc]
    simp only [Bool.and_eq_true,decide_eq_true_eq] at hc
    obtain ⟨o0,es0,n0,ho0,hd0',hc0,_⟩:=dictRep_obj hq
    have evo:Evo f.c own own s s₂:=(Evo.grow g1).trans (Evo.grow g2) g1.in_
    have inn:∀ b o,s.heap.get? b=some o->∃ o',s₂.heap.get? b=some o':=fun b o hb=>let ⟨o1,ho1⟩:=g1.in_ b o hb;g2.in_ b o1 ho1
    have fin:∀ h' tk,Heap.SameBut ad s₂.heap h'->(∀ vs',DictRep h' ad ((dput l kk d).map (·.1)) vs'->RdKV s₂.heap (Fz f.c own) (dput l kk d) vs'->ExPost f fr (.ok (.next (ρ.set i (some (.dict (dput l kk d)))))) own s .next (up s₂ (h') (tk))):=by
     intro h' tk hsb vs' hq' hr'
     have k':∀ b o,b≠ad->s₂.heap.get? b=some o->h'.get? b=some o:=fun b o hb ho=>(hsb.2 b hb).trans ho
     have kpF:Kp (Fz f.c own) s₂.heap h':=mut_kp ho0 (.inr ⟨_,_,hd0'⟩) k' fun h=>by rw [h.2] at hown;cases hown
     obtain ⟨o1,_,_,ho1,_⟩:=dictRep_obj hq'
     obtain ⟨h1,h2,h3⟩:=x2.mutate F.ok hi hm hown (hv.grow g2.h) ho0 (.inr ⟨_,_,hd0'⟩) (tk:=tk) k' ⟨o1,ho1⟩ (d':=.dict (dput l kk d)) ⟨ad,vs',rfl,hown,ha1,by have:=dput_len l kk d;exact o337 hc.2 this,hq',RdKV.to kpF _ hr'⟩
     exact ⟨_,own,rfl,h1,evo.trans h2 inn,fun b o hb=>let ⟨o1,ho1⟩:=inn b o hb;h3 b o1 ho1⟩
    have hlen':=(RdKV.rds hrkv).length
    have hsz:l.length<=sizeLine:=Nat.le_trans hlen (by decide)
    cases kd with
    | int j=>
     cases hkk
     obtain ⟨t,rfl⟩:=hkey
     obtain ⟨kvs,hdo,e5,e6⟩:=hq.int hc.1
     rw [e6] at hrkv
     obtain ⟨q1,q2⟩:=dput_int (i:=j) hval e5 hrkv
     have hkl:kvs.length<=sizeLine:=by have:=congrArg List.length e5;simp only [List.length_map] at this;exact o339 hsz this
     refine wpAny_setItem_pairs (isInt_int j t) hdo (fun h' hdo' hsb=>?_) hkl
     exact fin h' _ hsb _ (.inl ⟨_,hdo',q1,rfl⟩) q2
    | tuple tl=>
     simp only [PV.key?,Option.map_eq_some_iff] at hkk
     obtain ⟨is,his,rfl⟩:=hkk
     obtain ⟨ka,us,rfl,⟨m,hks⟩,hkn,hkr⟩:=hkey
     obtain ⟨xs,hdo,e5,e6,htk⟩:=hq.tup hc.1
     rw [e6] at hrkv
     obtain ⟨q1,q2⟩:=dput_tup (i:=is) (a:=ka) hval e5 hrkv
     have hkey':(tupleKind (intKind prog w)).is s₂.heap is ka:=⟨_,us,m,hks,rfl,rfl,itemsAre_ints his hkr⟩
     have hkl:xs.length<=sizeLine:=by have:=congrArg List.length e5;simp only [List.length_map] at this;exact o339 hsz this
     refine wpAny_setItem_heap (tupleKind_room_in1 (by have:=F.ok.units;exact o291 this)) hkey' hdo (fun h' hdo' hsb=>?_) hkl
     exact fin h' _ hsb _ (.inr ⟨_,hdo',q1,rfl,(htk.stored ⟨us,⟨m,hks⟩,by rw [<-Array.length_toList,hkr.length];exact hkn⟩).but ho0 hd0' hsb⟩) q2
    | _=>cases hkk
   ·exact absurd rfl hn2
  ·exact absurd rfl hn2
theorem update_sound (F:FixOk f) {y:Str} {yp apos cpos pos:Pos} {e:Expr} {i:Nat} {a:PE} {k:Cl} (hd:(y==("__debug__" : Str))=false) (hm:(y,i)∈f.c.names) (hi:i∈f.c.mv) (hev:EvOK f cf e a k) (hk:k.inner=true) (hse:starred e=false)
  (hline:(apos.endLine==cpos.line)=true) (hint:interactive f.c.env=false):ExOK f cf fr (.Expr (.Call (.Attribute (.Name y yp) "update" apos) [e] [] cpos) pos) (.update i a):=by
 intro own ρ s x hn
 dsimp only [xE6] at hn ⊢
 obtain ⟨d0,hd0,e0⟩:=slot_ok hn
 rw [e0] at hn ⊢
 have hst:starEach [e] f.c.env=[(false,eval e f.c.env)]:=zD hse
 refine wpAny_Expr ?_ hint rfl
 refine wpAny_Call_method (T := "dict") (id := "dict.update") rfl ?_ hline PySem.F.plainAttrs_dict PySem.F.slot_dict_update PySem.F.type_dict_update ?_
 ·rw [hst];rfl
 refine wpAny_Name (x.load' F.ok hm hd0 fun v hv hr=>?_) (by simpa using hd)
 rw [hst]
 have hl:∃ l,d0=.dict l:=by
  cases d0 with
  | dict l=>exact ⟨l,rfl⟩
  | _=>exact absurd rfl hn
 obtain ⟨l,rfl⟩:=hl
 dsimp only at hn ⊢
 obtain ⟨ad,vs,rfl,hown,ha1,hlen,hq,hrkv⟩:=own_dict hi hr
 obtain ⟨o0,es0,n0,ho0,hd0',hc0,hdn0⟩:=dictRep_obj hq
 refine ⟨⟨_,ho0,hc0⟩,fun a' q=>by injection q with q;subst q;exact ⟨_,ho0,hdn0⟩,?_⟩
 refine method1_meetsIn PySem.F.slot_dict_update PySem.F.entry_dict_update (hev.useX F x hn fun d v s₁ e1 e2 hn1 g1 x1 r1=>?_)
 rw [e2]
 obtain ⟨ad',vs',hq0,hown',ha1',hlen',hq',hrkv'⟩:=own_dict hi (VRd.grow F.ok x g1 hr)
 injection hq0 with hq0;subst hq0
 cases d with
 | dict m=>
  dsimp only at hn1 ⊢
  split at hn1
  ·rename_i hc
   rw [if_pos hc]
   simp only [Bool.and_eq_true,decide_eq_true_eq,Bool.or_eq_true,Bool.not_eq_true'] at hc
   obtain ⟨⟨⟨hf1,hf2⟩,hl1⟩,hh⟩:=hc
   obtain ⟨am,vm,rfl,hPm,ham1,hlm,hqm,hrm⟩:=r1.rd x hk
   obtain ⟨xs,hdo,e5,e6,htk⟩:=hq'.tup hf1
   obtain ⟨more,hdm,e7,e8,htm⟩:=hqm.tup hf2
   rw [e6] at hrkv'
   rw [e8] at hrm
   have hne:ad≠am:=fun e=>by rw [e] at hown;rw [hPm.2] at hown;cases hown
   obtain ⟨q1,q2⟩:=dupd_tup e7 hrm e5 hrkv'
   obtain ⟨o1,es1,n1,ho1,hd1',hc1,_⟩:=dictRep_obj hq'
   have hxl:xs.length=l.length:=by have:=congrArg List.length e5;simp only [List.length_map] at this;exact o338 this
   have hml:more.length=m.length:=by have:=congrArg List.length e7;simp only [List.length_map] at this;exact o338 this
   refine ⟨⟨_,ho1,hc1⟩,PySem.F.args_dict_update_2 _ _,_,meets_update_heap ad am hne (sysNe ham1),tupleKind_room_in1 (by have:=F.ok.units;exact o291 this),xs,more,hdo,hdm,fun hx=>?_,?_,fun h' hdo' hsb=>?_⟩
   ·have hle:l=[]:=by subst hx;exact List.length_eq_zero_iff.mp hxl.symm
    rcases hh with h1 | h1
    ·rw [hle] at h1;cases h1
    ·have:(m.map fun p=>khash p.1)=more.map fun x=>(tk).hash x.1:=by
      have:=congrArg (List.map khash) e7
      rw [List.map_map,List.map_map] at this
      exact this
     rw [<-this];exact h1
   ·unfold lim at hl1;rw [hxl,hml];have:sizeLine ≥ 16777216:=by decide
    exact o340 hl1 this
   ·have k':∀ b o,b≠ad->s₁.heap.get? b=some o->h'.get? b=some o:=fun b o hb ho=>(hsb.2 b hb).trans ho
    have kpF:Kp (Fz f.c own) s₁.heap h':=mut_kp ho1 (.inr ⟨_,_,hd1'⟩) k' fun h=>by rw [h.2] at hown;cases hown
    obtain ⟨o2,es2,ep2,ho2,_⟩:=id hdo'
    obtain ⟨h1,h2,h3⟩:=x1.mutate F.ok hi hm hown (hv.grow g1.h) ho1 (.inr ⟨_,_,hd1'⟩) (tk:=s₁.toks) k' ⟨o2,ho2⟩ (d':=.dict (dupd l m)) ⟨ad,_,rfl,hown,ha1,by have:=dupd_len l m;exact o341 hl1 this,.inr ⟨_,hdo',q1,rfl,(htk.merged htm).but ho1 hd1' hsb⟩,RdKV.to kpF _ q2⟩
    exact ⟨_,own,rfl,h1,(Evo.grow g1).trans h2 g1.in_,fun b o hb=>let ⟨o1,ho1⟩:=g1.in_ b o hb;h3 b o1 ho1⟩
  ·exact absurd rfl hn1
 | _=>exact absurd rfl hn1
end
end Mine.Internal
end
section
namespace Mine.Internal
open PySem PySem.Spec PyProof.Rows
section
variable {h:Heap} {C N:Addr} {mN:Str->Option Value}
theorem arc_makes (P:PlainAt h arcRec C N mN):W.Makes (model prog w) h C:=by
 obtain ⟨nm,q,bs,sn,sub,col,dd,k0,k1,k2,k3,k5,hC⟩:=P.cls.obj
 have hself:(Value.ref C::[Value.type "object"]).contains (.ref C)=true:=by simp
 have htop:(Value.ref C::[Value.type "object"]).contains (.type "object")=true:=by simp
 refine ⟨⟨_,_,_,_,hC,rfl,rfl,rfl⟩,fun A Q E s k hq=>?_,fun A Q E s k hq=>?_,fun A Q E s k hq=>?_,fun A Q E s k hq=>?_,fun A Q E s k hq=>?_,fun A Q E s k hq=>?_⟩
 ·exact wpAny_madeBy_exc (k _ _ hC) hq
 ·exact wpAny_staticBase_exc (k _ _ hC) hq
 ·exact wpAny_isSubtype_exc (k _ _ hC) (by rw [hself];exact hq)
 ·exact wpAny_isSubtype_exc (k _ _ hC) (by rw [htop];exact hq)
 ·exact wpAny_specialOf (T := "type") ⟨_,k _ _ hC,rfl⟩ tc_lookup hq
 ·exact wpAny_isInstance (T := "type") ⟨_,k _ _ hC,rfl⟩ (by rw [isSubtype_type];kernel_rfl) hq
theorem init_looks (P:PlainAt h arcRec C N mN) {fI:Addr} (hi:mN ("__init__" : Str)=some (.ref fI)):W.Looks (model prog w) h (typeLookup (.ref C) ("__init__" : Str)) (some (.ref fI)):=fun A Q E s k hq=>by
 obtain ⟨nm,q,bs,sn,sub,col,dd,k0,k1,k2,k3,k5,hC⟩:=P.cls.obj
 obtain ⟨hh,g,d,t,os⟩:=s
 refine wpAny_typeLookup_exc (B := "object") (y:=some (.builtin "object.__init__")) (k _ _ hC) (P.cls.ns.keeps k) (by kernel_rfl) (by rw [typeLookup_type,builtinLookup_eq_fast];kernel_rfl) ?_
 rw [hi];exact hq
theorem make_arc {A:Around} {s:Shared} {R:Result->Shared->Prop} (P:PlainAt s.heap arcRec C N mN) {fI:Addr} {oI:Obj} (hi:mN ("__init__" : Str)=some (.ref fI)) (ho:s.heap.get? fI=some oI) (hc:oI.cls=.type "function") {rest:List Value}
  (hq:codeAny (model prog w) (A.under (.builtin "type.__call__" ⟨.ref C::rest,[]⟩)) (.call (.ref fI) ⟨.ref (s.heap.objs.size+1)::rest,[]⟩) (W.InitBack (s.heap.objs.size+1) R) { s with heap:=(s.heap.push { cls:=.type "dict",data:=.dict #[] }).push { cls:=.ref C,dict:=some s.heap.objs.size,data:=.plain } }):
  codeAny (model prog w) A (.call (.ref C) ⟨rest,[]⟩) R s:=by
 obtain ⟨hh,g,d,t,os⟩:=s
 refine W.make_core (arc_makes P) (init_looks P hi) (fun self A Q E s k hq=>?_) (.inl rfl) hq
 unfold bindSpecial
 refine wpAny_bind (wpAny_typeOf (T := "function") ⟨_,k _ _ ho,hc⟩ ?_)
 exact wpAny_ite_true (by decide) (wpAny_pure hq)
end
end Mine.Internal
end
section
namespace Mine.Internal
open PySem PySem.Spec PyProof.Rows
noncomputable def clsB:List Stmt:=match (PySem.Challenge.pw_uf030002_09.main.body[21]?:Option Stmt) with
 | some (.ClassDef _ _ _ b _ _ _ _ _ _ _)=>b
 | _=>[]
noncomputable def mthB (i:Nat):List Stmt:=match (clsB[i]?:Option Stmt) with
 | some (.FunctionDef _ _ b _ _ _ _ _ _ _)=>b
 | _=>[]
noncomputable def pa (l:List Pos) (i:Nat):Pos:=l.getD i ⟨0,0,0,0⟩
noncomputable def sa (l:List Pos) (i:Nat) (x:Str):Expr:=.Attribute (.Name "self" (pa l i)) x (pa l (i+1))
noncomputable def in1 (l:List Pos) (i:Nat) (x:Str):Stmt:=.Assign [sa l i x] (.Name x (pa l (i+2))) (pa l (i+3))
noncomputable def in5 (l:List Pos):Stmt:=.Assign [sa l 16 "left"] (.Call (.Name "len" (pa l 18)) [.Name "things" (pa l 19)] [] (pa l 20)) (pa l 21)
noncomputable def initS (l:List Pos):List Stmt:=[in1 l 0 "things",in1 l 4 "turns",in1 l 8 "kind",in1 l 12 "fresh",in5 l]
set_option maxRecDepth 100000 in
theorem init_shape:∃ l,mthB 0=initS l:=⟨[_,_,_,_,_,_,_,_,_,_,_,_,_,_,_,_,_,_,_,_,_,_],rfl⟩
noncomputable def mthR (nm:Str):MethRec:=(arcRec.meths.find? fun r=>r.name==nm).getD ⟨"",⟨[],[],none,[],[],none,[]⟩,[],default⟩
set_option maxRecDepth 100000 in
theorem init_find:arcRec.meths.find? (fun r=>r.name==("__init__" : Str))=some (mthR "__init__"):=by kernel_rfl
set_option maxRecDepth 100000 in
theorem init_body:(mthR "__init__").body=mthB 0:=by kernel_rfl
end Mine.Internal
end
section
namespace Mine.Internal
open PySem PySem.Spec PyProof.Rows
theorem zip_lookup_some:∀ {xs:List Str} {vs:List Value} {x:Str},xs.length=vs.length->x∈xs->((xs.zip vs).lookup x).isNone=false
 | [],_,_,_,h=>by cases h
 | y::ys,[],_,h,_=>by simp at h
 | y::ys,v::vs,x,hl,h=>by
  simp only [List.zip_cons_cons,List.lookup_cons]
  cases q:x==y with
  | true=>rfl
  | false=>
   rcases List.mem_cons.mp h with e | h
   ·rw [e] at q;simp at q
   ·exact zip_lookup_some (by simpa using hl) h
theorem zip_filterMap {xs:List Str} {vs:List Value} (hl:xs.length=vs.length) (hn:xs.Nodup):(xs.filterMap fun n=>((xs.zip vs).lookup n).map (n,·))=xs.zip vs:=by
 have key:∀ (zs:List (Str×Value)),(∀ p∈zs,(xs.zip vs).lookup p.1=some p.2)->((zs.map (·.1)).filterMap fun n=>((xs.zip vs).lookup n).map (n,·))=zs:=by
  intro zs
  induction zs with
  | nil=>intro _;rfl
  | cons p zs ih=>
   intro h
   rw [List.map_cons,List.filterMap_cons,h p List.mem_cons_self]
   simp only [Option.map_some]
   rw [ih fun q hq=>h q (List.mem_cons_of_mem _ hq)]
 have h1:(xs.zip vs).map (·.1)=xs:=by rw [List.map_fst_zip];exact o342 hl
 have:=key (xs.zip vs) fun p hp=>lookup_of_mem (by rw [h1];exact hn) hp
 rw [h1] at this
 exact this
theorem bind2 {σ δ α:Type} {a:σ} {b:δ} {c1 c2:σ->δ->Prop} [∀ s d,Decidable (c1 s d)] [∀ s d,Decidable (c2 s d)] {A B r:σ->δ->Sem α} (h1:¬ c1 a b) (h2:¬ c2 a b):((pure a:Sem σ) >>= fun s=>(pure b:Sem δ) >>= fun d=>if c1 s d then A s d else if c2 s d then B s d else r s d)=r a b:=
 (if_neg h1).trans (if_neg h2)
theorem bind_plain {fd:FuncData} {as:List Arg} {vals:List Value} (hp:fd.params=⟨[],as,none,[],[],none,[]⟩) (hd:fd.defaults=.none) (hl:vals.length=as.length) (hn:(as.map Arg.arg).Nodup):
  bindArgs fd ⟨vals,[]⟩=pure ((as.map Arg.arg).zip vals):=by
 obtain ⟨_,_,_,_,_,_,_,_,_,_,_,_,_,_,_⟩:=fd
 cases hp;cases hd
 have hl':(as.map Arg.arg).length=vals.length:=by rw [List.length_map];exact hl.symm
 have e:List.drop (((none:Option (Array Value)).getD #[]).toList.length-(as.map Arg.arg).length) ((none:Option (Array Value)).getD #[]).toList=[]:=List.drop_nil
 refine (bind2 (σ:=List (Str×Value)×List (Str×Value)) (δ:=Option (Array Value)) (b:=none) ?_ ?_).trans ?_
 ·show ¬ (decide (vals.length > (as.map Arg.arg).length)&&true)=true
  rw [hl',Bool.and_true,decide_eq_true_iff];exact Nat.lt_irrefl _
 ·show ¬ (!(((as.map Arg.arg).take ((as.map Arg.arg).length-(List.drop (((none:Option (Array Value)).getD #[]).toList.length-(as.map Arg.arg).length) ((none:Option (Array Value)).getD #[]).toList).length)).filter fun n=>(((as.map Arg.arg).zip vals).lookup n).isNone).isEmpty)=true
  rw [e,List.filter_eq_nil_iff.2 fun x hx=>by rw [zip_lookup_some hl' (List.mem_of_mem_take hx)];exact Bool.false_ne_true];exact Bool.false_ne_true
 ·show (forIn (((as.map Arg.arg).drop ((as.map Arg.arg).length-(List.drop (((none:Option (Array Value)).getD #[]).toList.length-(as.map Arg.arg).length) ((none:Option (Array Value)).getD #[]).toList).length)).zip (List.drop (((none:Option (Array Value)).getD #[]).toList.length-(as.map Arg.arg).length) ((none:Option (Array Value)).getD #[]).toList)) _ _ >>= _)=_
  rw [e,List.zip_nil_right]
  show (pure ((as.map Arg.arg++[]).filterMap fun n=>(((as.map Arg.arg).zip vals).lookup n).map (n,·)):Sem _)=_
  rw [List.append_nil,zip_filterMap hl' hn]
structure EnvS (env:Env) (L:Addr) (ns:List Str):Prop where
 kind:env.scope.kind=.function
 loc:env.locals=L
 ks:∀ y∈ns,env.kindOf y=some .local
structure Dis (x dx la t L:Addr):Prop where
 a1:x≠dx
 a2:x≠la
 a3:x≠t
 a4:x≠L
 a5:dx≠la
 a6:dx≠t
 a7:dx≠L
 a8:la≠t
 a9:la≠L
 a10:t≠L
structure HS (x dx la t L N:Addr) (mN m mL:Str->Option Value) (vs:Array Value) (n:Nat) (kvs:List (Int×Value)) (h0 h:Heap):Prop where
 k:∀ b o,b≠x->b≠dx->b≠la->b≠t->b≠L->h0.get? b=some o->h.get? b=some o
 hx:∃ o,h.get? x=some o/\o.cls=.ref CA/\o.dict=some dx/\o.data=.plain
 ns:h.Ns1 dx m
 l:h.get? la=some { cls:=.type "list",dict:=none,data:=.seq vs n,slots:=#[] }
 d:h.DictOf (intKind prog w) t kvs
 fr:h.Ns L mL
section
variable {x dx la t L N:Addr} {mN m mL mL' m':Str->Option Value} {vs vs':Array Value} {n n':Nat} {kvs kvs':List (Int×Value)} {h0 h h':Heap}
theorem dictOf_but {a:Addr} (X:h.DictOf (intKind prog w) t kvs) (k:∀ o,h.get? t=some o->h'.get? t=some o):h'.DictOf (intKind prog w) t kvs:=by
 obtain ⟨o,es,ep,ho,r⟩:=X;exact ⟨o,es,ep,k o ho,r⟩
theorem nsAt {a:Addr} {mm:Str->Option Value} (X:h.Ns a mm) (k:∀ o,h.get? a=some o->h'.get? a=some o):h'.Ns a mm:=by
 obtain ⟨o,es,ep,ho,r⟩:=X;exact ⟨o,es,ep,k o ho,r⟩
theorem HS.loc (D:Dis x dx la t L) (H:HS x dx la t L N mN m mL vs n kvs h0 h) (hs:Heap.SameBut L h h') (hn:h'.Ns L mL'):HS x dx la t L N mN m mL' vs n kvs h0 h' where
 k:=fun b o h1 h2 h3 h4 h5 hb=>(hs.2 b h5).trans (H.k b o h1 h2 h3 h4 h5 hb)
 hx:=let ⟨o,ho,r⟩:=H.hx;⟨o,(hs.2 x D.a4).trans ho,r⟩
 ns:=H.ns.at fun o ho=>(hs.2 dx D.a7).trans ho
 l:=(hs.2 la D.a9).trans H.l
 d:=dictOf_but (a:=t) H.d fun o ho=>(hs.2 t D.a10).trans ho
 fr:=hn
theorem HS.lst (D:Dis x dx la t L) (H:HS x dx la t L N mN m mL vs n kvs h0 h) (hs:Heap.SameBut la h h') (hl:h'.get? la=some { cls:=.type "list",dict:=none,data:=.seq vs' n',slots:=#[] }):HS x dx la t L N mN m mL vs' n' kvs h0 h' where
 k:=fun b o h1 h2 h3 h4 h5 hb=>(hs.2 b h3).trans (H.k b o h1 h2 h3 h4 h5 hb)
 hx:=let ⟨o,ho,r⟩:=H.hx;⟨o,(hs.2 x D.a2).trans ho,r⟩
 ns:=H.ns.at fun o ho=>(hs.2 dx D.a5).trans ho
 l:=hl
 d:=dictOf_but (a:=t) H.d fun o ho=>(hs.2 t D.a8.symm).trans ho
 fr:=nsAt H.fr fun o ho=>(hs.2 L D.a9.symm).trans ho
theorem HS.dct (D:Dis x dx la t L) (H:HS x dx la t L N mN m mL vs n kvs h0 h) (hs:Heap.SameBut t h h') (hd:h'.DictOf (intKind prog w) t kvs'):HS x dx la t L N mN m mL vs n kvs' h0 h' where
 k:=fun b o h1 h2 h3 h4 h5 hb=>(hs.2 b h4).trans (H.k b o h1 h2 h3 h4 h5 hb)
 hx:=let ⟨o,ho,r⟩:=H.hx;⟨o,(hs.2 x D.a3).trans ho,r⟩
 ns:=H.ns.at fun o ho=>(hs.2 dx D.a6).trans ho
 l:=(hs.2 la D.a8).trans H.l
 d:=hd
 fr:=nsAt H.fr fun o ho=>(hs.2 L D.a10.symm).trans ho
end
section
variable {A:Around} {E:Value->Shared->Prop} {s:Shared} {env:Env} {x dx la t L N:Addr} {mN m mL:Str->Option Value} {vs:Array Value} {n:Nat} {kvs:List (Int×Value)} {h0:Heap} {names:List Str}
theorem ld_local (ES:EnvS env L names) (hn:s.heap.Ns L mL) {y:Str} {p:Pos} (hy:y∈names) {v:Value} (hv:mL y=some v) (hd:(y==("__debug__" : Str))=false) {Q:Value->Shared->Prop} (h:Q v s):wpAny (model prog w) A (eval (.Name y p) env) Q E s:=
 wpAny_Name (wpAny_loadName_local ES.kind (ES.ks y hy) (ES.loc ▸ hn) hv h) hd
theorem HS.att {h h':Heap} {m':Str->Option Value} (D:Dis x dx la t L) (H:HS x dx la t L N mN m mL vs n kvs h0 h) (I:h'.Inst x CA m') (k:∀ b o,b≠x->(∀ o₀ d,h.get? x=some o₀->o₀.dict=some d->b≠d)->h.get? b=some o->h'.get? b=some o)
  (hs:∀ o₀,h.get? x=some o₀->∃ o₁,h'.get? x=some o₁/\o₁.cls=o₀.cls/\o₁.data=o₀.data/\o₁.slots=o₀.slots/\∀ d,o₀.dict=some d->o₁.dict=some d):HS x dx la t L N mN m' mL vs n kvs h0 h':=by
 obtain ⟨o,ho,hc,hd,hp⟩:=H.hx
 obtain ⟨o₁,e1,e2,e3,_,e5⟩:=hs o ho
 have k':∀ b o,b≠x->b≠dx->h.get? b=some o->h'.get? b=some o:=fun b ob h1 h2 hb=>k b ob h1 (fun o₀ d q1 q2=>by rw [ho] at q1;cases q1;rw [hd] at q2;cases q2;exact h2) hb
 refine ⟨fun b o h1 h2 h3 h4 h5 hb=>k' b o h1 h2 (H.k b o h1 h2 h3 h4 h5 hb),⟨o₁,e1,e2.trans hc,e5 _ hd,e3.trans hp⟩,?_,k' la _ D.a2.symm D.a5.symm H.l,dictOf_but (a:=t) H.d fun o ho=>k' t o D.a3.symm D.a6.symm ho,nsAt H.fr fun o ho=>k' L o D.a4.symm D.a7.symm ho⟩
 obtain ⟨o',e',_,_,hd'⟩:=I
 rw [e1] at e';cases e'
 rcases hd' with ⟨hn0,_⟩ | ⟨d',hd',_,hns'⟩
 ·rw [e5 _ hd] at hn0;cases hn0
 ·rw [e5 _ hd] at hd';cases hd';exact hns'
end
end Mine.Internal
end
section
namespace Mine.Internal
open PySem PySem.Spec PyProof.Rows
section
variable {A:Around} {E:Value->Shared->Prop} {s:Shared} {env:Env} {x dx la t L N:Addr} {mN m mL:Str->Option Value} {vs:Array Value} {n:Nat} {kvs:List (Int×Value)} {h0:Heap} {names:List Str}
theorem set_attr (D:Dis x dx la t L) (P:PlainAt s.heap arcRec CA N mN) (H:HS x dx la t L N mN m mL vs n kvs h0 s.heap) {nm:Str} {k:Nat} (hf:(nm,k)∈fieldTab) {v:Value} {ns:List Str} (hw:Within m ns) (hsz:ns.length<=sizeLine) {Q:Unit->Shared->Prop}
  (h:∀ h' tk,HS x dx la t L N mN (fun y=>if y=nm then some v else m y) mL vs n kvs h0 h'->Q () (up s h' tk)):wpAny (model prog w) A (setAttr (.ref x) nm v) Q E s:=by
 obtain ⟨hp,g,d,tt,os⟩:=s
 obtain ⟨nm',q,bs,sn,sub,col,dd,k0,k1,k2,k3,k5,hC⟩:=P.cls.obj
 have hxC:x≠CA:=fun e=>by
  obtain ⟨o,ho,_,_,hd⟩:=H.hx
  rw [e,hC] at ho;cases ho;cases hd
 exact store_attr PySem.F.store_object hC P.cls.ns (quiet_set P) (quiet_field P hf) (no_field hf) hxC (inst_of H.hx H.ns) (fun h' tk' I' hk hsame=>h h' tk' (H.att D I' hk hsame)) hw hsz
end
end Mine.Internal
end
section
namespace Mine.Internal
open PySem PySem.Spec PyProof.Rows
section
variable {h:Heap} {x dx la t:Addr} {m:Str->Option Value}
theorem dis_of (hx:∃ o,h.get? x=some o/\o.cls=.ref CA/\o.dict=some dx/\o.data=.plain) (ns:h.Ns1 dx m) {vs:Array Value} {n:Nat} (hl:h.get? la=some { cls:=.type "list",dict:=none,data:=.seq vs n,slots:=#[] }) {kvs:List (Int×Value)} (hd:h.DictOf (intKind prog w) t kvs) (ne:dx≠t) {L:Addr} (hL:h.get? L=none):Dis x dx la t L:=by
 obtain ⟨o,ho,_,_,hp⟩:=hx
 obtain ⟨o',_,_,ho',hd',_⟩:=ns
 obtain ⟨o2,_,_,ho2,_,hd2,_⟩:=hd
 refine ⟨fun e=>?_,fun e=>?_,fun e=>?_,fun e=>?_,fun e=>?_,ne,fun e=>?_,fun e=>?_,fun e=>?_,fun e=>?_⟩
 ·rw [e,ho'] at ho;cases ho;rw [hd'] at hp;cases hp
 ·rw [e,hl] at ho;cases ho;cases hp
 ·rw [e,ho2] at ho;cases ho;rw [hd2] at hp;cases hp
 ·rw [e,hL] at ho;cases ho
 ·rw [e,hl] at ho';cases ho';cases hd'
 ·rw [e,hL] at ho';cases ho'
 ·rw [e,ho2] at hl;cases hl;cases hd2
 ·rw [e,hL] at hl;cases hl
 ·rw [e,hL] at ho2;cases ho2
end
section
variable {f:Fix} {cf:Nat->List PV->Res PV} {own:Addr->Option Nat} {ρ:Slots} {s s₁:Shared} {fr:Bool}
theorem meth_get {B:Heap} {N:Addr} {mN:Str->Option Value} (P:PlainAt B arcRec CA N mN) {nm:Str} (hf:arcRec.meths.find? (fun r=>r.name==nm)=some (mthR nm)):
  ∃ a o pm cd doc,mN nm=some (.ref a)/\B.get? a=some o/\o.cls=.type "function" /\ o.data=.func (methDef (mthR nm).name (arcRec.name ++ "." ++ (mthR nm).name) (mthR nm).params (mthR nm).body (mthR nm).scope pm cd doc)/\B.CodeRec cd (arcRec.name ++ "." ++ (mthR nm).name):=by
 have hn:(mthR nm).name=nm:=eq_of_beq (List.find?_some (p:=fun r:MethRec=>r.name==nm) hf)
 obtain ⟨a,o,pm,cd,doc,h1,h2,h3,h4,h5⟩:=P.meths _ (List.mem_of_find?_eq_some hf)
 exact ⟨a,o,pm,cd,doc,hn ▸ h1,h2,h3,h4,h5⟩
end
end Mine.Internal
end
section
namespace Mine.Internal
open PySem PySem.Spec PyProof.Rows
set_option maxRecDepth 100000 in
theorem init_facts:(mthR "__init__").params=⟨[],(mthR "__init__").params.args,none,[],[],none,[]⟩/\(mthR "__init__").params.args.map Arg.arg=(["self","things","turns","kind","fresh"]:List Str)/\(mthR "__init__").scope.names.all (fun x=>x.2 != .cell)=true /\
  ((["self","things","turns","kind","fresh"]:List Str).all fun x=>(mthR "__init__").scope.names.lookup x==some .local)=true/\(mthR "__init__").scope.isCoroutine=false/\(mthR "__init__").scope.isGenerator=false/\(mthR "__init__").scope.kind=.function/\(mthR "__init__").scope.names.lookup ("len" : Str)=some .globalImplicit:=by
 refine ⟨?_,?_,?_,?_,?_,?_,?_,?_⟩<;>kernel_rfl
theorem am_init {la t:Addr} {kd:Str} {f l:Int} {u1 u2 u3:Tok} {m0:Str->Option Value} (h0:∀ y,m0 y=none):AMap (fun y=>if y=("left" : Str) then some (.int l u1) else (fun y=>if y=("fresh" : Str) then some (.int f u2) else (fun y=>if y=("kind" : Str) then some (.str kd u3) else (fun y=>if y=("turns" : Str) then some (.ref t) else (fun y=>if y=("things" : Str) then some (.ref la) else m0 y) y) y) y) y) la t kd f l where
 th:=(if_neg (by decide +kernel)).trans ((if_neg (by decide +kernel)).trans ((if_neg (by decide +kernel)).trans ((if_neg (by decide +kernel)).trans (if_pos rfl))))
 tu:=(if_neg (by decide +kernel)).trans ((if_neg (by decide +kernel)).trans ((if_neg (by decide +kernel)).trans (if_pos rfl)))
 kd:=⟨u3,(if_neg (by decide +kernel)).trans ((if_neg (by decide +kernel)).trans (if_pos rfl))⟩
 fr:=⟨u2,(if_neg (by decide +kernel)).trans (if_pos rfl)⟩
 lf:=⟨u1,if_pos rfl⟩
 no:=fun x hx=>(if_neg fun e=>hx (by rw [e];decide +kernel)).trans ((if_neg fun e=>hx (by rw [e];decide +kernel)).trans ((if_neg fun e=>hx (by rw [e];decide +kernel)).trans ((if_neg fun e=>hx (by rw [e];decide +kernel)).trans ((if_neg fun e=>hx (by rw [e];decide +kernel)).trans (h0 x)))))
section
variable {A:Around} {E:Value->Shared->Prop} {s:Shared} {env:Env} {x dx la t L N:Addr} {mN m mL:Str->Option Value} {vs:Array Value} {n:Nat} {kvs:List (Int×Value)} {h0:Heap} {names:List Str}
theorem init_run {l:List Pos} (ES:EnvS env L ["self","things","turns","kind","fresh"]) (D:Dis x dx la t L)
  (hP:∀ h,(∀ b o,b≠x->b≠dx->b≠la->b≠t->b≠L->h0.get? b=some o->h.get? b=some o)->PlainAt h arcRec CA N mN) (hlen:∀ (s':Shared) (p:Pos) (Q:Value->Shared->Prop),(∀ b o,b≠x->b≠dx->b≠la->b≠t->b≠L->h0.get? b=some o->s'.heap.get? b=some o)->Q (.builtin "len") s'->wpAny (model prog w) A (eval (.Name "len" p) env) Q E s')
  (H:HS x dx la t L N mN (fun _=>none) mL vs n kvs h0 s.heap) {kd:Str} {f:Int} {u1 u2:Tok} (hvs:vs.size<=lim)
  (h1:mL ("self" : Str)=some (.ref x)) (h2:mL ("things" : Str)=some (.ref la)) (h3:mL ("turns" : Str)=some (.ref t)) (h4:mL ("kind" : Str)=some (.str kd u1)) (h5:mL ("fresh" : Str)=some (.int f u2)) {Q:Flow->Shared->Prop}
  (hQ:∀ h' tk m',HS x dx la t L N mN m' mL vs n kvs h0 h'->AMap m' la t kd f vs.size->Q .next (up s h' tk)):
  wpAny (model prog w) A (execs (initS l) env) Q E s:=by
 have si:("self" : Str)∈(["self","things","turns","kind","fresh"]:List Str):=by decide +kernel
 refine wpAny_execs_cons (plainObj_wpAny_Assign_Attribute (ld_local ES H.fr (by decide +kernel) h2 (by decide +kernel) (ld_local ES H.fr si h1 (by decide +kernel) (set_attr D (hP _ H.k) H (k:=0) (by decide +kernel) Within.nil (by decide +kernel) fun g1 t1 H1=>?_))) rfl)
 refine wpAny_execs_cons (plainObj_wpAny_Assign_Attribute (ld_local ES H1.fr (by decide +kernel) h3 (by decide +kernel) (ld_local ES H1.fr si h1 (by decide +kernel) (set_attr D (hP _ H1.k) H1 (k:=1) (by decide +kernel) (Within.cons _ _ Within.nil) (by decide +kernel) fun g2 t2 H2=>?_))) rfl)
 clear H1
 refine wpAny_execs_cons (plainObj_wpAny_Assign_Attribute (ld_local ES H2.fr (by decide +kernel) h4 (by decide +kernel) (ld_local ES H2.fr si h1 (by decide +kernel) (set_attr D (hP _ H2.k) H2 (k:=2) (by decide +kernel) (Within.cons _ _ (Within.cons _ _ Within.nil)) (by decide +kernel) fun g3 t3 H3=>?_))) rfl)
 clear H2
 refine wpAny_execs_cons (plainObj_wpAny_Assign_Attribute (ld_local ES H3.fr (by decide +kernel) h5 (by decide +kernel) (ld_local ES H3.fr si h1 (by decide +kernel) (set_attr D (hP _ H3.k) H3 (k:=3) (by decide +kernel) (Within.cons _ _ (Within.cons _ _ (Within.cons _ _ Within.nil))) (by decide +kernel) fun g4 t4 H4=>?_))) rfl)
 clear H3
 refine wpAny_execs_cons (plainObj_wpAny_Assign_Attribute (wpAny_Call_NameR (hlen _ _ _ H4.k ?_)) rfl)
 refine Calls.callWith_builtin rfl (zG rfl (by simp) (wpAny_items_cons (ld_local ES H4.fr (by decide +kernel) h2 (by decide +kernel) (wpAny_items_nil ?_)) rfl))
 refine Calls.call_len_list ⟨_,H4.l,rfl,n,rfl⟩ (lim63 hvs) ?_
 refine ld_local ES H4.fr si h1 (by decide +kernel) (set_attr (s:={ s with heap:=g4,toks:=_ }) D (hP _ H4.k) H4 (k:=4) (by decide +kernel) (Within.cons _ _ (Within.cons _ _ (Within.cons _ _ (Within.cons _ _ Within.nil)))) (by decide +kernel) fun g5 t5 H5=>?_)
 exact wpAny_execs_nil (hQ g5 t5 _ H5 (am_init fun _=>rfl))
end
end Mine.Internal
end
section
namespace Mine.Internal
open PySem PySem.Spec PyProof.Rows
theorem mk1_ok {x y z u d:PV} (h:mk1 x y z u=.ok d):∃ l m k f,x=.list l/\y=.dict m/\z=.str k/\u=.int f/\dfits m (.int 0)=true/\PV.imms l=true/\PV.imms (m.map (·.2))=true/\d=.obj l m k f l.length:=by
 obtain ⟨l,rfl,h⟩:=onL_ok h
 obtain ⟨m,rfl,h⟩:=onD_ok h
 obtain ⟨k,rfl,h⟩:=onS_ok h
 obtain ⟨f,rfl,h⟩:=onI_ok h
 obtain ⟨h1,h2⟩:=if_ok h
 cases h2
 simp only [Bool.and_eq_true] at h1
 exact ⟨l,m,k,f,rfl,rfl,rfl,rfl,h1.1.1,h1.1.2,h1.2,rfl⟩
theorem lk5 {a b c d e:Str} {x y z u v:Value} (h1:(a==b)=false) (h2:(a==c)=false) (h3:(a==d)=false) (h4:(a==e)=false) (h5:(b==c)=false) (h6:(b==d)=false) (h7:(b==e)=false) (h8:(c==d)=false) (h9:(c==e)=false) (h10:(d==e)=false):
  ([(a,x),(b,y),(c,z),(d,u),(e,v)]:List (Str×Value)).reverse.lookup a=some x/\([(a,x),(b,y),(c,z),(d,u),(e,v)]:List (Str×Value)).reverse.lookup b=some y/\([(a,x),(b,y),(c,z),(d,u),(e,v)]:List (Str×Value)).reverse.lookup c=some z/\([(a,x),(b,y),(c,z),(d,u),(e,v)]:List (Str×Value)).reverse.lookup d=some u/\([(a,x),(b,y),(c,z),(d,u),(e,v)]:List (Str×Value)).reverse.lookup e=some v:=by
 show List.lookup a [(e,v),(d,u),(c,z),(b,y),(a,x)]=some x/\List.lookup b [(e,v),(d,u),(c,z),(b,y),(a,x)]=some y/\List.lookup c [(e,v),(d,u),(c,z),(b,y),(a,x)]=some z/\List.lookup d [(e,v),(d,u),(c,z),(b,y),(a,x)]=some u/\List.lookup e [(e,v),(d,u),(c,z),(b,y),(a,x)]=some v
 simp [List.lookup_cons,h1,h2,h3,h4,h5,h6,h7,h8,h9,h10]
section
variable {f:Fix} {cf:Nat->List PV->Res PV} {own:Addr->Option Nat} {ρ:Slots} {s s₁:Shared} {fr:Bool}
set_option maxHeartbeats 1000000 in
theorem make_call (F:FixOk f) (hln:f.t.G.lookup ("len" : Str)=none) (x:St f.c own ρ s) {l:List PV} {m:List (Key×PV)} {k:Str} {ff:Int} {la t:Addr} {vs:Array Value} {n:Nat} {us:List Value} {u1 u2:Tok} {P1 P2:Addr->Prop} (hla:f.c.h0.get? la=none) (ql:s.heap.get? la=some { cls:=.type "list",dict:=none,data:=.seq vs n,slots:=#[] })
  (rr:Rds s.heap P1 l vs.toList) (ln:l.length<=lim) (ht:f.c.h0.get? t=none) (n1:t≠1) (lt:m.length<=lim) (dq:DictRep s.heap t (m.map (·.1)) us) (dr:RdKV s.heap P2 m us) (sk:PyData.strOk k=true) (hfit:dfits m (.int 0)=true) (im:PV.imms l=true/\PV.imms (m.map (·.2))=true) {Q:Value->Shared->Prop} {E:Value->Shared->Prop}
  (hQ:∀ xa h' tk,GrowH (frs f.c.A) f.c.h0 h'->RdO h' (fun b=>(f.c.P0 b\/f.c.h0.get? b=none)/\Value.ref xa≠.ref b) (fun a=>f.c.h0.get? a=none) (.obj l m k ff l.length) (.ref xa)->Q (.ref xa) (up s h' tk)):
  wpAny (model prog w) f.c.A (call (.ref CA) [.ref la,.ref t,.str k u1,.int ff u2]) Q E s:=by
 obtain ⟨N,mN,arc⟩:=F.gnd.arc
 have hkB:=x.baseB F
 obtain ⟨fa,o,pm,cd,doc,hf,ho,hc,hdt,hcd⟩:=meth_get arc.at_ init_find
 obtain ⟨kvs,hdo,e5,rfl⟩:=dq.int hfit
 obtain ⟨f1,f2,f3,f4,f5,f6,f7,f8⟩:=init_facts
 generalize hX:s.heap.objs.size+1=X
 generalize hDX:s.heap.objs.size=DX at hX
 have hXn:s.heap.get? X=none:=by
  cases q:s.heap.get? X with
  | none=>rfl
  | some o=>exact absurd (Heap.lt_size q) (Nat.not_lt.mpr (by rw [hDX,<-hX];exact Nat.le_succ _))
 have hDn:s.heap.get? DX=none:=hDX ▸ newSize _
 refine wpAny_call (make_arc (arc.at_.keeps hkB) hf (hkB _ _ ho) hc ?_)
 have hk0:∀ b o,s.heap.get? b=some o->((s.heap.push { cls:=.type "dict",data:=.dict #[] }).push { cls:=.ref CA,dict:=some s.heap.objs.size,data:=.plain }).get? b=some o:=fun b o hb=>Heap.get?_push_of_some _ (Heap.get?_push_of_some _ hb)
 have hXo:((s.heap.push { cls:=.type "dict",data:=.dict #[] }).push { cls:=.ref CA,dict:=some s.heap.objs.size,data:=.plain }).get? X=some { cls:=.ref CA,dict:=some DX,data:=.plain }:=by
  have:=Heap.get?_push_size (s.heap.push { cls:=.type "dict",data:=.dict #[] }) (o:={ cls:=.ref CA,dict:=some s.heap.objs.size,data:=.plain }) rfl
  rw [Heap.size_push,hDX,hX] at this
  rw [hDX];exact this
 have hDo:((s.heap.push { cls:=.type "dict",data:=.dict #[] }).push { cls:=.ref CA,dict:=some s.heap.objs.size,data:=.plain }).get? DX=some { cls:=.type "dict",data:=.dict #[] }:=by
  have:=Heap.get?_push_size s.heap (o:={ cls:=.type "dict",data:=.dict #[] }) rfl
  rw [hDX] at this
  exact Heap.get?_push_of_some _ this
 rw [hDX,hX]
 rw [hDX] at hk0 hXo hDo
 generalize (s.heap.push { cls:=.type "dict",data:=.dict #[] }).push { cls:=.ref CA,dict:=some DX,data:=.plain }=H0 at *
 have hnsD:H0.Ns1 DX fun _=>none:=Heap.Ns1.of_empty ⟨_,#[],_,hDo,rfl,fun e he=>absurd he (by simp),fun _=>rfl⟩
 have hbind:bindArgs (methDef (mthR "__init__").name (arcRec.name ++ "." ++ (mthR "__init__").name) (mthR "__init__").params (mthR "__init__").body (mthR "__init__").scope pm cd doc) ⟨[.ref X,.ref la,.ref t,.str k u1,.int ff u2],[]⟩=pure ([("self",.ref X),("things",.ref la),("turns",.ref t),("kind",.str k u1),("fresh",.int ff u2)]:List (Str×Value)):=by
  have hl:[Value.ref X,.ref la,.ref t,.str k u1,.int ff u2].length=(mthR "__init__").params.args.length:=by rw [<-List.length_map (f:=Arg.arg),f2];rfl
  have:=bind_plain (vals:=[.ref X,.ref la,.ref t,.str k u1,.int ff u2]) (fd:=methDef (mthR "__init__").name (arcRec.name ++ "." ++ (mthR "__init__").name) (mthR "__init__").params (mthR "__init__").body (mthR "__init__").scope pm cd doc) f1 rfl hl (by rw [f2];decide +kernel)
  rw [f2] at this
  exact this
 have hkB0:∀ b o,f.B.get? b=some o->H0.get? b=some o:=fun b o hb=>hk0 b o (hkB b o hb)
 refine codeAny_call_def (s:={ s with heap:=H0 }) (body:=(mthR "__init__").body) (dep3 F.depth) (hkB0 _ _ ho) hdt (F.gnd.nolimit.keeps hkB0) (hcd.keeps hkB0) rfl (.of_eq hbind) (fun z hz=>?_) (fun z hz=>?_) (fun h₁ hns hk₁=>?_) f5 f6 f7
 ·have:=List.all_eq_true.1 f3 z hz
  exact fun e=>by rw [e] at this;cases this
 ·have:=List.all_eq_true.1 f4 z.1 (by
   simp only [List.mem_cons,List.not_mem_nil,or_false] at hz
   rcases hz with rfl | rfl | rfl | rfl | rfl
   ·exact .head _
   ·exact .tail _ (.head _)
   ·exact .tail _ (.tail _ (.head _))
   ·exact .tail _ (.tail _ (.tail _ (.head _)))
   ·exact .tail _ (.tail _ (.tail _ (.tail _ (.head _)))))
  exact eq_of_beq this
 obtain ⟨l0,hb0⟩:=init_shape
 have hbody:(mthR "__init__").body=initS l0:=init_body.trans hb0
 rw [hbody]
 generalize hLL:H0.objs.size=L at *
 have hL:H0.get? L=none:=hLL ▸ newSize _
 have hx0:∃ o,H0.get? X=some o/\o.cls=.ref CA/\o.dict=some DX/\o.data=.plain:=⟨_,hXo,rfl,rfl,rfl⟩
 obtain ⟨ot,est,ept,hot,rt⟩:=id hdo
 have hdo0:H0.DictOf (intKind prog w) t kvs:=⟨ot,est,ept,hk0 _ _ hot,rt⟩
 have D:Dis X DX la t L:=dis_of hx0 hnsD (hk0 _ _ ql) hdo0 (fun e=>by rw [<-e,hDn] at hot;cases hot) hL
 have hout:∀ {b o},f.B.get? b=some o->b≠X/\b≠DX/\b≠la/\b≠t/\b≠L:=fun {b o} hb=>by
  have h0:=(F.base b o hb).2
  have h2:=hkB b o hb
  refine ⟨fun e=>?_,fun e=>?_,fun e=>?_,fun e=>?_,fun e=>?_⟩
  ·rw [e,hXn] at h2;cases h2
  ·rw [e,hDn] at h2;cases h2
  ·rw [e,hla] at h0;cases h0
  ·rw [e,ht] at h0;cases h0
  ·have:=hkB0 b o hb;rw [e,hL] at this;cases this
 have hP:∀ h,(∀ b o,b≠X->b≠DX->b≠la->b≠t->b≠L->h₁.get? b=some o->h.get? b=some o)->PlainAt h arcRec CA N mN:=fun h kk=>arc.at_.keeps fun b o hb=>
  let ⟨q1,q2,q3,q4,q5⟩:=hout hb;kk b o q1 q2 q3 q4 q5 (hk₁ b o (hkB0 b o hb))
 have H:HS X DX la t L N mN (fun _=>none) (fun x=>([("self",.ref X),("things",.ref la),("turns",.ref t),("kind",.str k u1),("fresh",.int ff u2)]:List (Str×Value)).reverse.lookup x) vs n kvs h₁ h₁:=⟨fun _ _ _ _ _ _ _ h=>h,let ⟨o,ho,r⟩:=hx0;⟨o,hk₁ _ _ ho,r⟩,hnsD.at fun o ho=>hk₁ _ _ ho,hk₁ _ _ (hk0 _ _ ql),dictOf_but (a:=t) hdo0 fun o ho=>hk₁ _ _ ho,hns⟩
 have ES:EnvS (callEnv (methDef (mthR "__init__").name (arcRec.name ++ "." ++ (mthR "__init__").name) (mthR "__init__").params (initS l0) (mthR "__init__").scope pm cd doc) L fa) L ["self","things","turns","kind","fresh"]:=⟨f7,rfl,fun y hy=>eq_of_beq (List.all_eq_true.1 f4 y hy)⟩
 obtain ⟨k1,k2,k3,k4,k5⟩:=lk5 (x:=Value.ref X) (y:=Value.ref la) (z:=Value.ref t) (u:=Value.str k u1) (v:=Value.int ff u2) (show (("self" : Str) == "things")=false by decide +kernel) (show (("self" : Str) == "turns")=false by decide +kernel) (show (("self" : Str) == "kind")=false by decide +kernel) (show (("self" : Str) == "fresh")=false by decide +kernel) (show (("things" : Str) == "turns")=false by decide +kernel) (show (("things" : Str) == "kind")=false by decide +kernel) (show (("things" : Str) == "fresh")=false by decide +kernel) (show (("turns" : Str) == "kind")=false by decide +kernel) (show (("turns" : Str) == "fresh")=false by decide +kernel) (show (("kind" : Str) == "fresh")=false by decide +kernel)
 have hsz:vs.size=l.length:=lenOf rr
 refine init_run ES D hP (fun s' p Q kk hq=>wpAny_Name ?_ (by decide +kernel)) H (by rw [hsz];exact ln) k1 k2 k3 k4 k5 fun h' tk m' H' am'=>⟨rfl,hQ X h' tk ?_ ?_⟩
 ·obtain ⟨mg,g1,_,g2,_⟩:=F.gnd.g
  obtain ⟨mb,g3,g4⟩:=F.gnd.b
  have kb:∀ b o,f.B.get? b=some o->s'.heap.get? b=some o:=fun b o hb=>let ⟨q1,q2,q3,q4,q5⟩:=hout hb;kk b o q1 q2 q3 q4 q5 (hk₁ b o (hkB0 b o hb))
  rw [loadName_read ES.kind (show (callEnv (methDef (mthR "__init__").name (arcRec.name ++ "." ++ (mthR "__init__").name) (mthR "__init__").params (initS l0) (mthR "__init__").scope pm cd doc) L fa).kindOf ("len" : Str)=some .globalImplicit from f8)]
  have hb:(("len" : Str),Value.builtin "len")∈biTable:=by decide +kernel
  exact Calls.loadGlobal_builtin (g1.keeps kb) (g2 _ _ hb hln) (g3.keeps kb) (g4 _ _ hb) hq
 ·intro b o hb
  have kk:∀ o',s.heap.get? b=some o'->h'.get? b=some o':=fun o' hs=>H'.k b o' (fun e=>by rw [e,hXn] at hs;cases hs) (fun e=>by rw [e,hDn] at hs;cases hs) (fun e=>by rw [e,hla] at hb;cases hb) (fun e=>by rw [e,ht] at hb;cases hb) (fun e=>by have:=hk0 b o' hs;rw [e,hL] at this;cases this) (hk₁ b o' (hk0 b o' hs))
  obtain ⟨q1,sl,q2⟩:=x.base b o hb
  exact ⟨fun hf=>kk _ (q1 hf),sl,kk _ q2⟩
 ·have kp:Kp (fun _=>False) s.heap h':=fun b o hs hm=>by
   rcases hm with ⟨_,_,hd,hc | ⟨hp,_⟩⟩ | ⟨_,_,_,hp⟩ | ⟨_,hp⟩
   ·refine H'.k b o (fun e=>by rw [e,hXn] at hs;cases hs) (fun e=>by rw [e,hDn] at hs;cases hs) (fun e=>?_) (fun e=>?_) (fun e=>by have:=hk0 b o hs;rw [e,hL] at this;cases this) (hk₁ b o (hk0 b o hs))
    ·rw [e,ql] at hs;cases hs;simp at hc
    ·rw [e,hot] at hs;cases hs;rw [rt.1.1] at hc;simp at hc
   ·exact hp.elim
   ·exact hp.elim
   ·exact hp.elim
  rw [hsz] at am'
  exact ⟨X,DX,la,t,m',vs,_,rfl,x.newBase hXn,x.newBase hDn,hla,ht,H'.hx,H'.ns,am',sk,D.a6,im,⟨n,H'.l⟩,ln,Rds.ofImm l im.1 (Rds.to kp l (Rds.ofImm l im.1 rr)),n1,lt,.inl ⟨kvs,H'.d,e5,rfl⟩,RdKV.ofImm m im.2 (RdKV.to kp m (RdKV.ofImm m im.2 dr))⟩
end
end Mine.Internal
end
section
namespace Mine.Internal
open PySem PySem.Spec PyProof.Rows
section
variable {f:Fix} {cf:Nat->List PV->Res PV} {own:Addr->Option Nat} {ρ:Slots} {s s₁:Shared} {fr:Bool} {e:Expr} {p:PE} {k:Cl}
theorem EvOK.at (h:EvOK f cf e p k) (x:St f.c own ρ s) {d:PV} (he:ev cf ρ p=.ok d) {Q E:Value->Shared->Prop} (hQ:∀ v s',Grow f.c.A s s'->RdC f.c own s.heap s'.heap k d v->Q v s'):wpAny (model prog w) f.c.A (eval e f.c.env) Q E s:=by
 refine wpAny_mono (h own ρ s x (by rw [he];exact fun q=>by cases q)) (fun v s' q=>?_) fun _ _ q=>q.elim
 obtain ⟨d',e1,g1,r⟩:=q
 rw [he] at e1;cases e1
 exact hQ v s' g1 r
theorem part_str {c:Cx} {h₀ h:Heap} {x:Str} {v:Value} (r:RdC c own h₀ h k (.str x) v):PyData.strOk x=true/\∃ t,v=.str x t:=by cases k<;>exact r
theorem loadArc (F:FixOk f) (x:St f.c own ρ s) (hg:f.t.glob ("Arc" : Str)=true) {Q E:Value->Shared->Prop} (h:Q (.ref CA) s):wpAny (model prog w) f.c.A (loadName f.c.env "Arc") Q E s:=by
 obtain ⟨mg,h1,_,_,h2⟩:=F.gnd.g
 have hk:f.c.env.kindOf ("Arc" : Str)=some .globalImplicit:=by
  show f.c.env.scope.names.lookup ("Arc" : Str)=_
  rw [F.scope];exact eq_of_beq hg
 rw [loadName_read F.ok.kind hk]
 exact Calls.loadGlobal_global (by rw [F.gl];exact h1.keeps (x.baseB F)) h2 h
theorem retMk_sound (F:FixOk f) (hfr:fr=true) {z y:Str} {np yp cpos pos:Pos} {e₁ e₂ e₃:Expr} {i:Nat} {b c d:PE} {kc kd:Cl} (hz:z=("Arc" : Str)) (hg:f.t.glob ("Arc" : Str)=true) (hln:f.t.G.lookup ("len" : Str)=none) (hdb:(y==("__debug__" : Str))=false) (hm:(y,i)∈f.c.names) (hi:i∈f.c.mv)
  (hb:EvOK f cf e₁ b .fresh) (hc:EvOK f cf e₂ c kc) (hd:EvOK f cf e₃ d kd) (hs:[e₁,e₂,e₃].any starred=false):ExOK f cf fr (.Return (some (.Call (.Name z np) [.Name y yp,e₁,e₂,e₃] [] cpos)) pos) (.retMk i b c d):=by
 subst hz hfr
 intro own ρ s x hn
 rw [xE15] at hn ⊢
 obtain ⟨d0,hd0,e0⟩:=slot_ok hn
 rw [e0] at hn ⊢
 obtain ⟨d1,eb,hn1⟩:=bind_ok' hn
 obtain ⟨d2,ec,hn2⟩:=bind_ok' hn1
 obtain ⟨d3,ed,hn3⟩:=bind_ok' hn2
 obtain ⟨d4,e4,_⟩:=bind_ok' hn3
 rw [eb,bindK,ec,bindK,ed,bindK,e4,bindK]
 obtain ⟨l,m,k,ff,rfl,rfl,rfl,rfl,hfit,im1,im2,rfl⟩:=mk1_ok e4
 simp only [List.any_cons,List.any_nil,Bool.or_false,Bool.or_eq_false_iff] at hs
 obtain ⟨N,mN,arc⟩:=F.gnd.arc
 refine wpAny_Return_some (wpAny_Call_NameR (wpAny_Name (loadArc F x hg ?_) (by decide +kernel)))
 refine callWith_cls (h₀:=f.B) arc.at_.cls ?_ rfl (backTo_plain (by simp [hs.1,hs.2.1,hs.2.2]))
 refine wpAny_items_cons (wpAny_Name (x.load' F.ok hm hd0 fun v hv hr=>?_) hdb) rfl
 refine wpAny_items_cons (hb.at x eb fun v1 s₁ g1 r1=>?_) (zD hs.1)
 have x1:=x.grow F.ok g1
 refine wpAny_items_cons (hc.at x1 ec fun v2 s₂ g2 r2=>?_) (zD hs.2.1)
 have x2:=x1.grow F.ok g2
 refine wpAny_items_cons (hd.int x2 ed fun t3 s₃ g3=>wpAny_items_nil ⟨(x2.grow F.ok g3).baseB F,?_⟩) (zD hs.2.2)
 have x3:=x2.grow F.ok g3
 obtain ⟨sk,u,rfl⟩:=part_str r2
 have g23:=g2.trans g3
 obtain ⟨la,vs,rfl,oa,⟨n,ql⟩,ln,rr⟩:=own_list hi (VRd.grow F.ok x (g1.trans g23) hr)
 obtain ⟨t,us,rfl,ht,n1,lt,dq,dr⟩:=r1.grow x g1 F.ok g23
 obtain ⟨h3,tk3,rfl,_⟩:=g1.trans g23
 exact make_call F hln x3 (x3.ownNew la i oa hi) ql rr ln (x.newBase ht) n1 lt dq dr sk hfit ⟨im1,im2⟩ fun xa h' tk gr rd=>⟨_,rfl,⟨h',tk,rfl⟩,gr,rd⟩
inductive FlatE:PE->Prop where
 | and (l:List PE):FlatE (.and l)
 | or (l:List PE):FlatE (.or l)
 | cmp (o:COp) (a b:PE):FlatE (.cmp o a b)
 | not (a:PE):FlatE (.not a)
 | const (d:PV) (h:d.imm=true):FlatE (.const d)
noncomputable def toFlat (p:PE):Option { _u:Unit // FlatE p }:=match p with
 | .and l=>some ⟨(),.and l⟩
 | .or l=>some ⟨(),.or l⟩
 | .cmp o a b=>some ⟨(),.cmp o a b⟩
 | .not a=>some ⟨(),.not a⟩
 | .const d=>if h:d.imm=true then some ⟨(),.const d h⟩ else none
 | _=>none
theorem imm_fresh {c:Cx} {h₀ h:Heap} {d:PV} {v:Value} (hi:d.imm=true) (r:RdC c own h₀ h .safe d v):RdC c own h₀ h .fresh d v:=
 freshC (fun _ e=>by rw [e] at hi;cases hi) (fun _ e=>by rw [e] at hi;cases hi) (fun _ _ _ _ _ e=>by rw [e] at hi;cases hi) r
theorem flatE_imm {d:PV} (hp:FlatE p) (h:ev cf ρ p=.ok d):d.imm=true:=by
 cases hp with
 | const d' hp=>cases h;exact hp
 | and l=>obtain ⟨b,h⟩:=bind_of (vE11.symm.trans h);cases h;rfl
 | or l=>obtain ⟨b,h⟩:=bind_of (vE12.symm.trans h);cases h;rfl
 | cmp o a b=>
  obtain ⟨x,h⟩:=bind_of (vE9.symm.trans h)
  obtain ⟨y,h⟩:=bind_of h
  obtain ⟨r,h⟩:=bind_of h
  cases h;rfl
 | not a=>
  obtain ⟨x,h⟩:=bind_of (vE8.symm.trans h)
  cases x with
  | bool b=>cases h;rfl
  | _=>exact Res.no h
theorem flat_fresh (h:EvOK f cf e p .safe) (hp:FlatE p):EvOK f cf e p .fresh:=by
 intro own ρ s x hn
 refine wpAny_mono (h own ρ s x hn) (fun v s' q=>?_) fun _ _ q=>q.elim
 obtain ⟨d,e1,g,r⟩:=q
 exact ⟨d,e1,g,imm_fresh (flatE_imm hp e1) r⟩
end
end Mine.Internal
end
section
namespace Mine.Internal
open PySem PySem.Spec PyProof.Rows
section
variable {M:Model} {A:Around} {E:Value->Shared->Prop} {s:Shared}
theorem note_first {base:Heap} {env:Env} {outer:List Env} {L e:Addr} {oe:Obj} {vs:Array Value} {Q:Unit->Shared->Prop}
  (hfr:A.frames=some (env::outer)) (hl:s.heap.FunFrames base (env::outer)) (hf:env.frame=some L)
  (he:s.heap.get? e=some oe) (hkb:base.StaysIn s.heap) (hen:base.get? e=none) (hd:oe.data=.fields vs) (h1:vs[1]?=some .none)
  (h:∀ h',Heap.Left base (env::outer) e oe.cls s.heap h'->Q () { s with heap:=h' }):wpAny M A (noteFrame (.ref e) env) (fun _ s'=>wpAny M A (setFlight (.ref e) none) Q E s') E s:=by
 unfold noteFrame
 simp only [hf]
 refine wpAny_bind (wpAny_field he hd h1 ?_)
 rw [if_neg (by decide)]
 exact wpAny_newEntry hfr hl hf he hkb hen hd (Array.getElem?_eq_some_iff.mp h1).1 h
theorem note_next {base:Heap} {env:Env} {outer:List Env} {L e:Addr} {cls:Value} {Q:Unit->Shared->Prop}
  (hfr:A.frames=some (env::outer)) (hl:s.heap.FunFrames base (env::outer)) (hf:env.frame=some L) (ht:s.heap.Traced base e cls) (hkb:base.StaysIn s.heap) (hen:base.get? e=none)
  (h:∀ h',Heap.Left base (env::outer) e cls s.heap h'->Q () { s with heap:=h' }):wpAny M A (noteFrame (.ref e) env) (fun _ s'=>wpAny M A (setFlight (.ref e) none) Q E s') E s:=by
 obtain ⟨oe,vs,T,oT,ts,he,hcls,hd,h1,hnT,hTe,hT,hdT,h3⟩:=ht
 subst hcls
 unfold noteFrame
 simp only [hf]
 refine wpAny_bind (wpAny_field he hd h1 ?_)
 rw [if_pos (show (Value.ref T != Value.none)=true from by simp)]
 refine wpAny_bind (wpAny_field hT hdT h3 ?_)
 rw [if_neg (show ¬ ((Value.none==rawInt L)=true) from by simp [rawInt])]
 refine wpAny_bind (wpAny_setField hT hdT (Array.getElem?_eq_some_iff.mp h3).1 ?_)
 have other:∀ b,b≠T->(s.heap.update T (Obj.mapFields (·.setIfInBounds 3 Value.none))).get? b=s.heap.get? b:=fun b hb=>Heap.get?_update_other _ _ (Ne.symm hb)
 have noRecord:∀ b o,s.heap.get? b=some o->(∀ vs,o.data≠.fields vs)->b≠T:=fun b o hb hnf q=>by
  rw [q,hT] at hb;injection hb with hb;subst hb;exact hnf ts hdT
 refine wpAny_newEntry hfr (hl.of_keeps fun b o hb hnf=>⟨o,(other b (noRecord b o hb hnf)).trans hb,rfl⟩) hf ((other e (Ne.symm hTe)).trans he)
  (fun b o hbo=>(other b fun q=>by rw [q,hnT] at hbo;cases hbo).trans (hkb b o hbo)) hen hd (Array.getElem?_eq_some_iff.mp h1).1
  fun h' ⟨x1,x2,x3,x4⟩=>h h' ⟨x1,x2,x3,fun b o hb hnf=>x4 b o ((other b (noRecord b o hb hnf)).trans hb) hnf⟩
end
section
variable {f:Fix} {cf:Nat->List PV->Res PV} {own:Addr->Option Nat} {ρ:Slots} {s s₁:Shared} {fr:Bool}
theorem funFrames_of {h base:Heap}:∀ {l:List Env},(∀ e∈l,e.scope.kind≠.module/\∃ L,e.frame=some L)->(∀ b∈l.filterMap (·.frame),∃ m,h.Ns b m)->(∀ b∈l.filterMap (·.frame),base.get? b=none)->h.FunFrames base l
 | [],_,_,_=>trivial
 | e::l,h1,h2,h3=>by
  obtain ⟨hk,L,hL⟩:=h1 e List.mem_cons_self
  have hm:L∈(e::l).filterMap (·.frame):=by rw [List.filterMap_cons,hL];exact List.mem_cons_self
  have ht:∀ b∈l.filterMap (·.frame),b∈(e::l).filterMap (·.frame):=fun b hb=>by rw [List.filterMap_cons,hL];exact List.mem_cons_of_mem _ hb
  obtain ⟨m,hn⟩:=h2 L hm
  exact Heap.FunFrames.cons hk hL hn (h3 L hm) (funFrames_of (fun e' he'=>h1 e' (List.mem_cons_of_mem _ he')) (fun b hb=>h2 b (ht b hb)) fun b hb=>h3 b (ht b hb))
structure UpX (f:Fix) (C a:Addr) (s':Shared):Prop where
 g:GrowH (frs f.c.A) f.c.h0 s'.heap
 hf:∀ b∈frs f.c.A,∃ m,s'.heap.Ns b m
 hn:f.c.h0.get? a=none
 ht:s'.heap.Traced f.c.h0 a (.ref C)\/∃ oe vs,s'.heap.get? a=some oe/\oe.cls=.ref C/\oe.data=.fields vs/\vs[1]?=some .none
structure Gone (f:Fix) (C a:Addr) (h':Heap):Prop where
 g:GrowH (frs f.c.A) f.c.h0 h'
 hf:∀ b∈frs f.c.A,∃ m,h'.Ns b m
 hn:f.c.h0.get? a=none
 ht:h'.Traced f.c.h0 a (.ref C)
theorem Traced.back {l:List Addr} {h₀ h₁ h:Heap} {a:Addr} {c:Value} (g:GrowH l h₀ h₁) (x:h.Traced h₁ a c):h.Traced h₀ a c:=by
 obtain ⟨oe,vs,T,oT,ts,h1,h2,h3,h4,h5,r⟩:=x
 exact ⟨oe,vs,T,oT,ts,h1,h2,h3,h4,g.none h5,r⟩
theorem UpX.note (F:FixOk f) {outer:List Env} {L:Addr} (hfr:f.c.A.frames=some (f.c.env::outer)) (hf:f.c.env.frame=some L) {C a:Addr} {s':Shared} (u:UpX f C a s') {Q:Unit->Shared->Prop} {E:Value->Shared->Prop}
  (hQ:∀ h',Gone f C a h'->Q () { s' with heap:=h' }):
  wpAny (model prog w) f.c.A (noteFrame (.ref a) f.c.env) (fun _ s₂=>wpAny (model prog w) f.c.A (setFlight (.ref a) none) Q E s₂) E s':=by
 obtain ⟨hg,hns,hna,hk⟩:=u
 have hfrs:frs f.c.A=(f.c.env::outer).filterMap (·.frame):=by unfold frs;rw [hfr];rfl
 obtain ⟨l,hl,hl2⟩:=F.ok.frames
 rw [hfr] at hl;injection hl with hl;subst hl
 let base:=W.hideAll f.c.h0 (frs f.c.A)
 have hbn:∀ b∈(f.c.env::outer).filterMap (·.frame),base.get? b=none:=fun b hb=>W.hideAll_none _ (hfrs ▸ hb)
 have hff:s'.heap.FunFrames base (f.c.env::outer):=funFrames_of hl2 (fun b hb=>hns b (hfrs ▸ hb)) hbn
 have hst:base.StaysIn s'.heap:=fun b o hb=>by
  have hb0:=W.of_hideAll _ hb
  refine (hg b o hb0).1 fun hm=>?_
  rw [W.hideAll_none _ hm] at hb;cases hb
 have hen:base.get? a=none:=by
  cases q:base.get? a with
  | none=>rfl
  | some o=>rw [W.of_hideAll _ q] at hna;cases hna
 have done:∀ h',Heap.Left base (f.c.env::outer) a (.ref C) s'.heap h'->Q () { s' with heap:=h' }:=fun h' ⟨k1,k2,k3,k4⟩=>by
  refine hQ h' ⟨fun b o hb=>?_,fun b hb=>?_,hna,?_⟩
  ·by_cases hm:b∈frs f.c.A
   ·refine ⟨fun hn=>absurd hm hn,?_⟩
    obtain ⟨sl,h2⟩:=(hg b o hb).2
    obtain ⟨m,o',es,ep,ho',hd',_⟩:=hns b hm
    rw [h2] at ho';cases ho'
    obtain ⟨sl',h3⟩:=k4 b _ h2 fun vs q=>by rw [hd'] at q;cases q
    exact ⟨sl',h3⟩
   ·have:=k1 b o (W.hideAll_get _ hb hm)
    exact ⟨fun _=>this,o.slots,this⟩
  ·obtain ⟨m,o',es,ep,ho',hd',r⟩:=hns b hb
   obtain ⟨sl',h3⟩:=k4 b _ ho' fun vs q=>by rw [hd'] at q;cases q
   exact ⟨m,_,es,ep,h3,hd',r⟩
  ·obtain ⟨oe,vs,T,oT,ts,q1,q2,q3,q4,q5,q6,q7,q8,q9⟩:=k3
   refine ⟨oe,vs,T,oT,ts,q1,q2,q3,q4,?_,q6,q7,q8,q9⟩
   cases q:f.c.h0.get? T with
   | none=>rfl
   | some o=>
    by_cases hm:T∈frs f.c.A
    ·obtain ⟨_,o',ho',hnf⟩:=k2.mem (b:=T) (hfrs ▸ hm)
     rw [q7] at ho';cases ho';exact absurd q8 (hnf _)
    ·have:=W.hideAll_get _ q hm
     rw [show (W.hideAll f.c.h0 (frs f.c.A)).get? T=none from q5] at this;cases this
 rcases hk with ht | ⟨oe,vs,he,hc,hd,h1⟩
 ·refine note_next hfr hff hf (base:=base) ?_ hst hen done
  obtain ⟨oe,vs,T,oT,ts,q1,q2,q3,q4,q5,r⟩:=ht
  refine ⟨oe,vs,T,oT,ts,q1,q2,q3,q4,?_,r⟩
  cases q:base.get? T with
  | none=>rfl
  | some o=>rw [W.of_hideAll _ q] at q5;cases q5
 ·exact note_first hfr hff hf he hst hen hd h1 fun h' k=>done h' (hc ▸ k)
theorem UpX.leave (F:FixOk f) {outer:List Env} {L:Addr} (hfr:f.c.A.frames=some (f.c.env::outer)) (hf:f.c.env.frame=some L) {C a:Addr} {s':Shared} (u:UpX f C a s') {Q:Unit->Shared->Prop} {E:Value->Shared->Prop}
  (hQ:∀ h',Gone f C a h'->Q () { s' with heap:=h' }):
  wpAny (model prog w) f.c.A (leaving f.c.env (.ref a)) Q E s':=by
 unfold leaving
 exact wpAny_bind (u.note F hfr hf hQ)
structure FrK (f:Fix):Prop where
 frames:∃ outer,f.c.A.frames=some (f.c.env::outer)
 frame:f.c.env.frame=some f.c.env.locals
theorem ldG {A:Around} (F:FixOk f) (hB:∀ b o,f.B.get? b=some o->s.heap.get? b=some o) {y:Str} {mg:Str->Option Value} {v:Value} {Q E:Value->Shared->Prop} (hg:f.t.glob y=true) (hm:f.B.Ns mainGlobals mg) (hv:mg y=some v) (h:Q v s):
  wpAny (model prog w) A (loadName f.c.env y) Q E s:=by
 have hk:f.c.env.kindOf y=some .globalImplicit:=by
  show f.c.env.scope.names.lookup y=_
  rw [F.scope];exact eq_of_beq hg
 rw [loadName_read F.ok.kind hk]
 exact Calls.loadGlobal_global (by rw [F.gl];exact hm.keeps hB) hv h
theorem ldB {A:Around} (F:FixOk f) (hB:∀ b o,f.B.get? b=some o->s.heap.get? b=some o) {y:Str} {v:Value} {Q E:Value->Shared->Prop} (hg:f.t.glob y=true) (hn:f.t.G.lookup y=none) (hb:(y,v)∈biTable) (h:Q v s):
  wpAny (model prog w) A (loadName f.c.env y) Q E s:=by
 obtain ⟨mg,h1,_,h2,_⟩:=F.gnd.g
 obtain ⟨mb,h3,h4⟩:=F.gnd.b
 have hk:f.c.env.kindOf y=some .globalImplicit:=by
  show f.c.env.scope.names.lookup y=_
  rw [F.scope];exact eq_of_beq hg
 rw [loadName_read F.ok.kind hk]
 exact Calls.loadGlobal_builtin (by rw [F.gl];exact h1.keeps hB) (h2 y v hb hn) (by rw [F.bl];exact h3.keeps hB) (h4 y v hb) h
theorem raise_sound (F:FixOk f) {x:Str} {xp cpos pos mp:Pos} {m:Str} {mk:Nat} (hg:f.t.glob x=true) (hx:x=("NotFalling" : Str)) (st:St f.c own ρ s) {Q:Flow->Shared->Prop}:
  wpAny (model prog w) f.c.A (exec (.Raise (some (.Call (.Name x xp) [.Constant (.str m) mk mp] [] cpos)) none pos) f.c.env) Q (fun v s'=>∃ C D R a h' tk,Exc2 f.B C D R/\v=.ref a/\s'=up s h' tk/\UpX f C a s') s:=by
 subst hx
 obtain ⟨C,D,R,ex⟩:=F.gnd.x
 obtain ⟨bm,newId,Bn,initId,mg,hns,_,_,O,FB⟩:=ex.own
 obtain ⟨tl,N,nm,q,bs,hdct,sn,sub,ab,col,dd,k0,k1,k2,k3,k5,mN,hC,hN,hni,T⟩:=O.own.obj
 have hk:=st.baseB F
 refine wpAny_Raise_call_subT (C:=C) (nm:=nm) (q:=q) (N:=N) (bs:=bs) (bm:=tl) (hdct:=hdct) (sn:=sn) (sub:=sub) (ab:=ab) (col:=col) (dd:=dd) (k0:=k0) (k1:=k1) (k2:=k2) (k3:=k3) (k5:=k5)
  FB (mN:=mN) (T.hasType FB.hasBase) F.ok.handled rfl hni ?_
 refine wpAny_Name (ldG F hk hg hns O.bound ⟨rfl,?_⟩) (by decide +kernel)
 refine Calls.evalArgs_plain (wpAny_items_cons (wpAny_Constant_str (wpAny_items_nil ⟨rfl,by show 1<=sizeLine;decide,hk _ _ hC,hN.keeps hk,T.keeps hk,fun h' e hm=>?_⟩)) rfl)
 refine ⟨C,D,R,e,h',_,ex,rfl,rfl,st.base.trans (.of_keeps hm.keeps),fun b hb=>?_,st.newBase hm.new,.inr ?_⟩
 ·obtain ⟨_,m',hm'⟩:=st.fr b hb
  exact ⟨m',hm'.keeps hm.keeps⟩
 ·obtain ⟨t,h1,_⟩:=hm.there
  exact ⟨_,_,h1,rfl,rfl,rfl⟩
theorem callX_sound (F:FixOk f) (C:CF f.B f.fa f.t.G cf f.D) {g:Str} {gp pos:Pos} {es:List Expr} {l:List (PE×Cl)} {i ar:Nat} {fr':Bool} (hg:f.t.glob g=true) (hl:f.t.G.lookup g=some (.fn i ar fr')) (hr:g=("undone" : Str))
  (h:EachOK f cf es l) (hs:es.any starred=false) (hne:es≠[]) (hlen:l.length=ar) (hk:(l.map (·.2)).all Cl.inner=true) (x:St f.c own ρ s) (hn:((evs cf ρ (l.map (·.1))).bind fun xs=>cf (i+1000) xs)≠.stuck) {Q:Value->Shared->Prop}:
  wpAny (model prog w) f.c.A (eval (.Call (.Name g gp) es [] pos) f.c.env) Q (fun v s'=>(∃ ds d,evs cf ρ (l.map (·.1))=.ok ds/\cf (i+1000) ds=.ok d)/\∃ C D R a h' tk,Exc2 f.B C D R/\v=.ref a/\s'=up s h' tk/\UpX f C a s') s:=by
 subst hr
 have hn1:evs cf ρ (l.map (·.1))≠.stuck:=fun q=>hn (by rw [q];rfl)
 refine wpAny_Call_NameR (wpAny_Name (loadGl F x hg hl fun v hv=>?_) (by decide +kernel))
 rw [show v=.ref (f.fa i) from hv]
 obtain ⟨o,fd,ho,hfd⟩:=F.gnd.fn _ i ar fr' hl
 refine Calls.callWith_function (o:=o) (fd:=fd) (zG hs hne ?_)
 refine wpAny_mono (evs_sound F h hs x hn1) (fun vs s₁ q=>?_) fun _ _ q=>q.elim
 obtain ⟨ds,e1,g1,r⟩:=q
 have x1:=x.grow F.ok g1
 refine ⟨⟨x1.baseB F _ _ ho,hfd⟩,?_⟩
 rw [e1,bindK] at hn
 have hdl:ds.length=ar:=by
  rw [r.len,List.length_map,hlen]
 refine wpAny_call (codeAny_mono (C.x f.c.A s₁ i ar fr' ds vs (Fz f.c own) hl hdl (x1.here F) (fun a ha hf=>fz_dum hf (x1.fr a ha).1) (r.rds x hk) hn) fun res s₂ z=>?_)
 cases res with
 | ok fl=>exact z.elim
 | error x'=>
  obtain ⟨C',D',R',a,h2,t2,ex,rfl,rfl,g2,hna,ht⟩:=z
  obtain ⟨h1,t1,rfl,_⟩:=id g1
  refine ⟨⟨ds,?_⟩,C',D',R',a,h2,t2,ex,rfl,rfl,x1.base.trans g2,fun b hb=>let ⟨_,m,hm⟩:=x1.fr b hb;⟨m,g2.ns hm⟩,x1.newBase hna,.inl (Traced.back x1.base ht)⟩
  cases q:cf (i+1000) ds with
  | stuck=>exact absurd q hn
  | ok d=>exact ⟨d,e1,rfl⟩
theorem handle_as {A:Around} {E:Value->Shared->Prop} {s:Shared} {env:Env} {e:Addr} {t:Expr} {n:Str} {b₀:Stmt} {suite:List Stmt} {pos:Pos} {rest:List ExceptHandler} {Q:Flow->Shared->Prop}
  (h:wpAny (model prog w) (A.mark (some (.ref e))) (eval t env) (fun c s₁=>PySem.W.Looks (model prog w) s₁.heap (excMatches (.ref e) c) true /\
   wpAny (model prog w) (A.mark (some (.ref e))) (setFlight (.ref e) none) (fun _ s₂=>
     wpAny (model prog w) (A.mark (some (.ref e))) (storeName env n (.ref e)) (fun _ s₃=>
      wpAny (model prog w) (A.mark (some (.ref e))) (execs (b₀::suite) env)
       (fun f s₄=>wpAny (model prog w) A (do bindName env n .none;unbindBehindTheSuite env n pos) (fun _ s₅=>Q f s₅) E s₄)
       (AsSuiteRaised (model prog w) (A.mark (some (.ref e))) env n pos (notedBy (model prog w) (A.mark (some (.ref e))) env (cameBackBy (model prog w) A env E))) s₃) (notedBy (model prog w) (A.mark (some (.ref e))) env (cameBackBy (model prog w) A env E)) s₂) (notedBy (model prog w) (A.mark (some (.ref e))) env (cameBackBy (model prog w) A env E)) s₁) (notedBy (model prog w) (A.mark (some (.ref e))) env (cameBackBy (model prog w) A env E)) s):
  wpAny (model prog w) A (handleBy (.ref e) env (.ExceptHandler (some t) (some n) (b₀::suite) pos::rest)) Q E s:=
 wpAny_handleBy_cons (codeAny_handlers_test (wpAny_mono h (fun c s₁ h₁=>h₁.1.here (codeAny_handlers_suite_as h₁.2)) fun _ _ y=>y)) (by intro q;cases q)
inductive IsiIs:Expr->Str->Str->Str->Prop where
 | mk {y u d:Str} {p0 p1 p2 p3:Pos}:IsiIs (.Call (.Name y p0) [.Name u p1,.Name d p2] [] p3) y u d
theorem isi_exc {A:Around} (F:FixOk f) {E:Value->Shared->Prop} (hB:∀ b o,f.B.get? b=some o->s.heap.get? b=some o) {K:PySem.W.Frag} {C a:Addr} (hK:K.In f.B) (ho:excOk K C=true) (ha:∃ o,s.heap.get? a=some o/\o.cls=.ref C) {e:Expr} {n y d:Str} (he:IsiIs e y n d) {m:Str->Option Value} (hm:s.heap.Ns f.c.env.locals m) (hmn:m n=some (.ref a))
  (hn:f.c.env.kindOf n=some .local) (hnd:(n==("__debug__" : Str))=false) (hy:f.t.bi y "isinstance" = true) (hdd:(d==("__debug__" : Str))=false) {c:Value} (hd:∀ (A:Around) (Q:Value->Shared->Prop),Q c s->wpAny (model prog w) A (loadName f.c.env d) Q E s) {b:Bool} (hc:PySem.W.kitOne K (.ref C) c=some b) {Q:Value->Shared->Prop} (h:∀ tk,Q (.bool b) { s with toks:=tk }):
  wpAny (model prog w) A (eval e f.c.env) Q E s:=by
 cases he
 obtain ⟨rfl,hy⟩:=bi_eq hy
 simp only [TC.bi,Bool.and_eq_true,Option.isNone_iff_eq_none] at hy
 refine wpAny_Call_NameR (wpAny_Name (ldB F hB hy.1.1 hy.1.2 (v:=.builtin "isinstance") (by decide +kernel) ?_) (by decide +kernel))
 refine Calls.callWith_builtin (backTo_plain rfl) (zG rfl (by simp) ?_)
 refine wpAny_items_cons (wpAny_Name (wpAny_loadName_local F.ok.kind hn hm hmn ?_) hnd) (zD rfl)
 refine wpAny_items_cons (wpAny_Name (hd _ _ (wpAny_items_nil ?_)) hdd) (zD rfl)
 exact PySem.W.kia_one (kitx_exc ho) (hK.keeps hB) ha hc (by intro q;cases q) h
inductive ClIs (t:TC) (n:Str):Expr->Prop where
 | mk {e1 e2 e3:Expr} {y1 y2 y3 d2:Str} {p q:Pos} (h1:IsiIs e1 y1 n "NotFalling") (h2:IsiIs e2 y2 n d2) (h3:IsiIs e3 y3 n "NoDrawing") (b1:t.bi y1 "isinstance" = true) (b2:t.bi y2 "isinstance" = true) (b3:t.bi y3 "isinstance" = true)
  (d:t.bi d2 "ValueError" = true) (g1:t.glob ("NotFalling" : Str)=true) (g3:t.glob ("NoDrawing" : Str)=true):ClIs t n (.BoolOp .And [e1,e2,.UnaryOp .Not e3 p] q)
theorem clause_run (F:FixOk f) (FK:FrK f) {outer:List Env} (hfr:f.c.A.frames=some (f.c.env::outer)) {C' D R a:Addr} {h2:Heap} {s₀:Shared} (gone:Gone f C' a h2) (ex:Exc2 f.B C' D R) (hln:f.c.h0.get? f.c.env.locals=none) {x n:Str} {xp rp hp:Pos} {cl:Expr} (hx:x=("RopeError" : Str)) (hgx:f.t.glob x=true) (hn:f.c.env.kindOf n=some .local) (nd:(n==("__debug__" : Str))=false) (K:ClIs f.t n cl)
  {Q:Flow->Shared->Prop} {E:Value->Shared->Prop} (hQ:∀ h5 tk,GrowH (frs f.c.A) f.c.h0 h5->Q (.ret (.bool true)) (up s₀ h5 tk)):
  wpAny (model prog w) f.c.A (handleBy (.ref a) f.c.env [.ExceptHandler (some (.Name x xp)) (some n) [.Return (some cl) rp] hp]) Q E { s₀ with heap:=h2 }:=by
 obtain ⟨bm,newId,Bn,initId,mg,hmg,hD,hR,O,FB⟩:=ex.own
 obtain ⟨KK,hK,hKo⟩:=ex.isn
 unfold xcOk at hKo
 simp only [Bool.and_eq_true,beq_iff_eq] at hKo
 obtain ⟨⟨⟨k1,k2⟩,k3⟩,k4⟩:=hKo
 have hB:∀ b o,f.B.get? b=some o->h2.get? b=some o:=fun b o hb=>(gone.g b o (F.base b o hb).2).1 (F.base b o hb).1
 obtain ⟨oe,vs,T,oT,ts,p1,p2,p3,p4,p5,p6,p7,p8,p9⟩:=gone.ht
 subst hx
 have hloc:f.c.env.locals∈frs f.c.A:=by
  unfold frs
  rw [hfr]
  show f.c.env.locals∈(f.c.env::outer).filterMap (·.frame)
  rw [List.filterMap_cons,FK.frame];exact List.mem_cons_self
 have hp:(f.c.env.scope.kind==.class||(f.c.env.scope.kind==.module&&f.c.env.locals != f.c.env.globals))=false:=by rw [F.ok.kind];rfl
 refine handle_as (wpAny_Name (ldG F hB hgx hmg hR ⟨PySem.W.exm_one (hK.keeps hB) ((show oe.cls=.ref C' from p2) ▸ (PySem.W.Looks.ld p1).andThen .now) k4,?_⟩) (by decide +kernel))
 refine wpAny_setFlight_none p1 p3 p4 p7 p8 (Array.getElem?_eq_some_iff.mp p9).1 ?_
 have oth:∀ b,b≠T->(h2.update T (Obj.mapFields (·.setIfInBounds 3 Value.none))).get? b=h2.get? b:=fun b hb=>Heap.get?_update_other _ _ (Ne.symm hb)
 obtain ⟨m,ol,es0,n0,hol,hdl,rl⟩:=gone.hf _ hloc
 have hlT:f.c.env.locals≠T:=fun e=>by rw [e,p7] at hol;cases hol;rw [p8] at hdl;cases hdl
 have hmL:(h2.update T (Obj.mapFields (·.setIfInBounds 3 Value.none))).Ns f.c.env.locals m:=⟨ol,es0,n0,(oth _ hlT).trans hol,hdl,rl⟩
 have hol3:=(oth _ hlT).trans hol
 have hoe3:=(oth _ (Ne.symm p6)).trans p1
 have hB3:∀ b o,f.B.get? b=some o->(h2.update T (Obj.mapFields (·.setIfInBounds 3 Value.none))).get? b=some o:=fun b o hb=>by
  refine (oth b fun e=>?_).trans (hB b o hb)
  have:=(F.base b o hb).2
  rw [e,p5] at this;cases this
 have hg3:GrowH (frs f.c.A) f.c.h0 (h2.update T (Obj.mapFields (·.setIfInBounds 3 Value.none))):=fun b o hb=>by
  have hne:b≠T:=fun e=>by rw [e,p5] at hb;cases hb
  obtain ⟨h3,sl,h4⟩:=gone.g b o hb
  exact ⟨fun hf'=>(oth b hne).trans (h3 hf'),sl,(oth b hne).trans h4⟩
 generalize h2.update T (Obj.mapFields (·.setIfInBounds 3 Value.none))=h3 at *
 have hal:a≠f.c.env.locals:=fun e=>by rw [e,hol3] at hoe3;cases hoe3;rw [hdl] at p3;cases p3
 refine wpAny_storeName_local hn hmL (fun h4 hn4 hs4=>?_) hp
 have hB4:∀ b o,f.B.get? b=some o->h4.get? b=some o:=fun b o hb=>(hs4.2 b fun e=>by
  have:=(F.base b o hb).2
  rw [e,hln] at this;cases this).trans (hB3 b o hb)
 have hx4:∃ o,h4.get? a=some o/\o.cls=.ref C':=⟨oe,(hs4.2 a hal).trans hoe3,p2⟩
 obtain ⟨i1,i2,i3,b1,b2,b3,g2,g1,g3⟩:=K
 obtain ⟨e2,g2⟩:=bi_eq g2
 subst e2
 simp only [TC.bi,Bool.and_eq_true,Option.isNone_iff_eq_none] at g2
 refine wpAny_execs_cons (wpAny_Return_some ?_)
 show wpAny (model prog w) _ (boolOp _ .And [eval _ f.c.env,eval _ f.c.env,eval _ f.c.env]) _ _ _
 refine boolOp_cons2 (isi_exc F hB4 hK k1 hx4 i1 hn4 (if_pos rfl) hn nd b1 (by decide +kernel) (fun A Q q=>ldG F hB4 g1 hmg O.bound q) (if_pos (beq_self_eq_true _)) fun tk1=>wpAny_truthy_bool ?_)
 refine boolOp_cons2 (isi_exc F hB4 hK k1 hx4 i2 hn4 (if_pos rfl) hn nd b2 (by decide +kernel) (fun A Q q=>ldB F hB4 g2.1.1 g2.1.2 (by decide +kernel) q) k3 fun tk2=>wpAny_truthy_bool ?_)
 show wpAny (model prog w) _ (eval (.UnaryOp .Not _ _) f.c.env) _ _ _
 refine wpAny_UnaryOp (isi_exc F hB4 hK k1 hx4 i3 hn4 (if_pos rfl) hn nd b3 (by decide +kernel) (fun A Q q=>ldG F hB4 g3 hmg hD q) k2 fun tk3=>not_value (wpAny_truthy_bool ?_))
 refine wpAny_nameGoes hn hn4 hp fun h5 m5 hn5 hs5=>?_
 refine hQ h5 _ fun b o hb=>?_
 have hne:b≠f.c.env.locals:=fun e=>by rw [e,hln] at hb;cases hb
 obtain ⟨k1,sl,k2⟩:=hg3 b o hb
 have e1:h5.get? b=h3.get? b:=(hs5.2 b hne).trans (hs4.2 b hne)
 exact ⟨fun hf'=>e1.trans (k1 hf'),sl,e1.trans k2⟩
theorem tryR_sound (F:FixOk f) (FK:FrK f) (C:CF f.B f.fa f.t.G cf f.D) {g x n:Str} {gp cp ep xp rp hp pos:Pos} {cl:Expr} {es:List Expr} {l:List (PE×Cl)} {i ar:Nat} {fr':Bool} (hg:f.t.glob g=true) (hl:f.t.G.lookup g=some (.fn i ar fr')) (hr:g=("undone" : Str))
  (h:EachOK f cf es l) (hs:es.any starred=false) (hne:es≠[]) (hlen:l.length=ar) (hk:(l.map (·.2)).all Cl.inner=true) (hint:interactive f.c.env=false)
  (hx:x=("RopeError" : Str)) (hgx:f.t.glob x=true) (nl:f.t.scope.lookup n=some .local) (nd:(n==("__debug__" : Str))=false) (K:ClIs f.t n cl):
  ExOK f cf fr (.Try [.Expr (.Call (.Name g gp) es [] cp) ep] [.ExceptHandler (some (.Name x xp)) (some n) [.Return (some cl) rp] hp] [] [] pos) (.tryR i (l.map (·.1))):=by
 intro own ρ s st hns
 rw [xE13] at hns ⊢
 have hn0:((evs cf ρ (l.map (·.1))).bind fun xs=>cf (i+1000) xs)≠.stuck:=fun q=>hns (by
  cases q1:evs cf ρ (l.map (·.1)) with
  | stuck=>rfl
  | ok ds=>rw [q1,bindK] at q;rw [bindK,q];rfl)
 obtain ⟨outer,hfr⟩:=FK.frames
 have hn:f.c.env.kindOf n=some .local:=by show f.c.env.scope.names.lookup n=_;rw [F.scope];exact nl
 refine wpAny_Try_except (wpAny_execs_cons (wpAny_Expr (wpAny_mono (callX_sound F C hg hl hr h hs hne hlen hk st hn0 (Q:=fun _ _=>False)) (fun _ _ q=>q.elim) fun v s₁ q=>?_) hint rfl))
 obtain ⟨⟨ds,dd,q1,q2⟩,C',D,R,a,h1,t1,ex,rfl,rfl,u⟩:=q
 refine u.note F hfr FK.frame fun h2 gone=>?_
 refine clause_run F FK hfr gone ex st.locNew hx hgx hn nd K fun h5 tk g5=>?_
 rw [q1,bindK,q2,bindK]
 refine ⟨.bool true,rfl,⟨_,_,rfl⟩,g5,?_⟩
 unfold RetRd
 split<;>rfl
end
end Mine.Internal
end
section
set_option backward.eqns.nonrecursive false
namespace Mine.Internal
open PySem PySem.Spec PyProof.Rows
theorem notInter {f:Fix} (F:FixOk f):interactive f.c.env=false:=by unfold interactive;rw [F.ok.kind];rfl
theorem swaps_not {value:Expr} {tg:Option Expr} {l:Nat} {env:Env} (h:isComp value=false):swapsWith value tg l env=pure false:=by
 cases value with
 | ListComp _ _ _ _=>cases h
 | SetComp _ _ _ _=>cases h
 | DictComp _ _ _ _ _=>cases h
 | _=>rfl
def SOk (fr:Bool) (t:TC) (st:Stmt) (p:PS):Prop:=∀ cf f,FixOk f->f.t=t->CF f.B f.fa f.t.G cf f.D->FrK f->ExOK f cf fr st p
def SsOk (fr:Bool) (t:TC) (ss:List Stmt) (ps:List PS):Prop:=∀ cf f,FixOk f->f.t=t->CF f.B f.fa f.t.G cf f.D->FrK f->ExsOK f cf fr ss ps
def TgOk (t:TC) (e:Expr) (tg:Tgt):Prop:=∀ f,FixOk f->f.t=t->TgtAt f.c (Names f.c) e tg
theorem slotN {f:Fix} (F:FixOk f) {x:Str} {i:Nat} (h:f.t.slot x=some i):(x,i)∈f.c.names:=by rw [F.names];exact slot_mem h
theorem slotM {f:Fix} (F:FixOk f) {i:Nat} (h:i∈f.t.mv):i∈f.c.mv:=by rw [F.mv];exact h
theorem slotNM {f:Fix} (F:FixOk f) {i:Nat} (h:i∉f.t.mv):i∉f.c.mv:=by rw [F.mv];exact h
section
variable {fr:Bool} {t:TC}
theorem SOk.asg {x:Str} {px pos:Pos} {value:Expr} {i:Nat} {a:PE×Cl} (hs:t.slot x=some i) (ha:Ok t value a.1 a.2) (hk:stOk t i a.2=true) (hc:isComp value=false):SOk fr t (.Assign [.Name x px] value pos) (.assign i a.1):=
 fun _ _ F q C K=>by subst q;exact assign_sound F (slotN F hs) (ha _ _ F rfl C).1 hk (swaps_not hc)
theorem SOk.asgC {x:Str} {px pos cpos:Pos} {elt target iter:Expr} {ifs:List Expr} {scope:Scope} {r:CR} {i:Nat} (hs:t.slot x=some i) (h:CompIs t elt target iter ifs scope r) (hk:stOk t i .fresh=true):SOk fr t (.Assign [.Name x px] (.ListComp elt [⟨target,iter,ifs,0⟩] scope cpos) pos) (.assign i (r.pe t)):=
 fun _ f F q C K=>by
  subst q
  cases hsw:(f.c.env.blockKind==.function&&f.c.env.kindOf x==some .local&&px.line==cpos.line&&!(scope.names.any fun (n,k)=>n==x&&(k==.local||k==.cell))) with
  | false=>exact assign_sound F (slotN F hs) (Ok.comp h _ _ F rfl C).1 hk (congrArg (fun b=>(pure b:Sem Bool)) hsw)
  | true=>
   simp only [Bool.and_eq_true] at hsw
   exact assign_comp_sound F h.kd h.tn (compOk_ok h.ok) h.inr (fun cl c hcl=>(h.e _ (compFix f scope r.xs cl c) (compFix_ok F h.kd (compOk_ok h.ok) hcl) rfl C).1) (fun cl c hcl=>h.c _ (compFix f scope r.xs cl c) (compFix_ok F h.kd (compOk_ok h.ok) hcl) rfl C) (h.i _ _ F rfl C) (slotN F hs) (eq_of_beq hsw.1.1.2)
    (congrArg (fun b=>(pure b:Sem Bool)) (show (f.c.env.blockKind==.function&&f.c.env.kindOf x==some .local&&px.line==cpos.line&&!(scope.names.any fun (n,k)=>n==x&&(k==.local||k==.cell)))=true by simp only [Bool.and_eq_true];exact hsw))
theorem SOk.unp {es:List Expr} {kd:Nat} {tp pos:Pos} {value:Expr} {is:List Nat} {a:PE×Cl} (ht:TgOk t (.Tuple es kd tp) (.many is)) (ha:Ok t value a.1 a.2) (hk:a.2.inner=true) (hc:(isComp value||isTuple value)=false):SOk fr t (.Assign [.Tuple es kd tp] value pos) (.unpack is a.1):=
 fun _ _ F q C K=>by
  rw [Bool.or_eq_false_iff] at hc
  refine unpack_sound F (ht _ F q) (ha _ _ F q C).1 hk (by unfold swapsWithSole;exact swaps_not hc.1) ?_
  cases value with
  | Tuple _ _ _=>cases hc.2
  | _=>rfl
theorem SOk.sti {x:Str} {xp sp pos:Pos} {ix value:Expr} {j:Nat} {a b:PE×Cl} (hd:(x==("__debug__" : Str))=false) (hs:t.slot x=some j) (hm:j∈t.mv) (ha:Ok t value a.1 a.2) (hb:Ok t ix b.1 b.2) (hk:(a.2.inner&&b.2.inner)=true) (hc:isComp value=false):SOk fr t (.Assign [.Subscript (.Name x xp) ix sp] value pos) (.setItem j b.1 a.1):=
 fun _ _ F q C K=>by subst q;exact setItem_sound F hd (slotN F hs) (slotM F hm) (ha _ _ F rfl C).1 (Bool.and_eq_true_iff.1 hk).1 (hb _ _ F rfl C).1 (Bool.and_eq_true_iff.1 hk).2 (swaps_not hc)
noncomputable def methOk (e:Expr) (apos cpos:Pos):Bool:=!starred e&&(apos.endLine==cpos.line)
theorem SOk.app {x m:Str} {xp apos cpos pos:Pos} {e:Expr} {j:Nat} {a:PE×Cl} (hm:m=("append" : Str)) (hd:(x==("__debug__" : Str))=false) (hs:t.slot x=some j) (hv:j∈t.mv) (ha:Ok t e a.1 a.2) (hk:a.2.inner=true) (hc:methOk e apos cpos=true):SOk fr t (.Expr (.Call (.Attribute (.Name x xp) m apos) [e] [] cpos) pos) (.append j a.1):=
 fun _ _ F q C K=>by subst q hm;simp only [methOk,Bool.and_eq_true,Bool.not_eq_true'] at hc;exact append_sound F hd (slotN F hs) (slotM F hv) (ha _ _ F rfl C).1 hk hc.1 hc.2 (notInter F)
theorem SOk.upd {x m:Str} {xp apos cpos pos:Pos} {e:Expr} {j:Nat} {a:PE×Cl} (hm:m=("update" : Str)) (hd:(x==("__debug__" : Str))=false) (hs:t.slot x=some j) (hv:j∈t.mv) (ha:Ok t e a.1 a.2) (hk:a.2.inner=true) (hc:methOk e apos cpos=true):SOk fr t (.Expr (.Call (.Attribute (.Name x xp) m apos) [e] [] cpos) pos) (.update j a.1):=
 fun _ _ F q C K=>by subst q hm;simp only [methOk,Bool.and_eq_true,Bool.not_eq_true'] at hc;exact update_sound F hd (slotN F hs) (slotM F hv) (ha _ _ F rfl C).1 hk hc.1 hc.2 (notInter F)
theorem SOk.ite {test:Expr} {body orelse:List Stmt} {pos:Pos} {c:PE×Cl} {a b:List PS} (hc:Ok t test c.1 c.2) (ha:SsOk fr t body a) (hb:SsOk fr t orelse b):SOk fr t (.If test body orelse pos) (.ite c.1 a b):=fun _ _ F q C K=>ite_stmt_sound F (hc _ _ F q C).2 (ha _ _ F q C K) (hb _ _ F q C K)
theorem SOk.for {target iter:Expr} {body:List Stmt} {pos:Pos} {tg:Tgt} {r:ItK×List PE×Cl} {b:List PS} (ht:TgOk t target tg) (hi:It t (isTuple target) iter r) (hb:SsOk fr t body b) (hc:r.2.2.inner=true):SOk fr t (.For target iter body [] pos) (.for_ tg r.1 r.2.1 b):=
 fun _ _ F q C K=>for_sound F (tup:=isTuple target) (fun h=>by
  cases target with
  | Tuple _ _ _=>exact ⟨_,_,_,rfl⟩
  | _=>cases h) (hb _ _ F q C K) (ht _ F q) (hi _ _ F q C) hc
theorem SOk.whl {test:Expr} {body:List Stmt} {pos:Pos} {c:PE×Cl} {b:List PS} (hc:Ok t test c.1 c.2) (hb:SsOk fr t body b):SOk fr t (.While test body [] pos) (.while_ c.1 b):=fun _ _ F q C K=>while_sound F (hc _ _ F q C).2 (hb _ _ F q C K)
theorem SOk.ret {e:Expr} {pos:Pos} {a:PE×Cl} (ha:Ok t e a.1 a.2) (hk:(!fr||a.2==.fresh||a.2==.own)=true):SOk fr t (.Return (some e) pos) (.ret a.1):=fun _ _ F q C K=>ret_sound F (ha _ _ F q C).1 hk
theorem SOk.exp {e:Expr} {pos:Pos} {a:PE×Cl} (ha:Ok t e a.1 a.2) (hc:isComp e=false):SOk fr t (.Expr e pos) (.expr a.1):=fun _ _ F q C K=>by
 intro own ρ s x hn
 rw [xE12] at hn ⊢
 refine wpAny_Expr ((ha _ _ F q C).1.useX F x hn fun d v s₁ e1 e2 hn1 g1 x1 r1=>?_) (notInter F) (swaps_not hc)
 rw [e2]
 cases d with
 | none=>
  have hv:v=.none:=by cases a with | mk a1 a2=>cases a2<;>exact r1
  subst hv
  exact ⟨ρ,own,rfl,x1,Evo.grow g1,g1.in_⟩
 | _=>exact absurd rfl hn1
theorem SOk.hlt {st:Stmt}:SOk fr t st .halt:=fun _ _ _ _ _ _ _ _ _ _ hn=>absurd rfl hn
noncomputable def tryOk (t:TC) (g x n:Str) (es:List Expr):Bool:=
 callable g es&&t.glob g&&g==("undone" : Str)&&x==("RopeError" : Str)&&t.glob x&&t.scope.lookup n==some .local&&!(n==("__debug__" : Str))
theorem SOk.try {g x n:Str} {gp cp ep xp rp hp pos:Pos} {cl:Expr} {es:List Expr} {l:List (PE×Cl)} {i ar:Nat} {fr':Bool} (ht:tryOk t g x n es=true) (hl:t.G.lookup g=some (.fn i ar fr')) (h:Each t es l) (hn:l.length=ar) (hk:(l.map (·.2)).all Cl.inner=true) (hc:ClIs t n cl):
  SOk fr t (.Try [.Expr (.Call (.Name g gp) es [] cp) ep] [.ExceptHandler (some (.Name x xp)) (some n) [.Return (some cl) rp] hp] [] [] pos) (.tryR i (l.map (·.1))):=fun _ f F q C K=>by
 subst q
 simp only [tryOk,Bool.and_eq_true,beq_iff_eq,Bool.not_eq_true'] at ht
 obtain ⟨⟨⟨⟨⟨⟨h1,h2⟩,h3⟩,h4⟩,h5⟩,h6⟩,h7⟩:=ht
 exact tryR_sound F K C h2 hl h3 (h _ _ F rfl C) (callable_ok h1).2.1 (callable_ok h1).2.2 hn hk (notInter F) h4 h5 h6 h7 hc
noncomputable def toIsi (e:Expr):Option { q:Str×Str×Str // IsiIs e q.1 q.2.1 q.2.2 }:=match e with
 | .Call (.Name y _) [.Name u _,.Name d _] [] _=>some ⟨(y,u,d),.mk⟩
 | _=>none
noncomputable def toCl (t:TC) (n:Str) (e:Expr):Option (PLift (ClIs t n e)):=match e with
 | .BoolOp .And [e1,e2,.UnaryOp .Not e3 _] _=>(toIsi e1).bind fun a=>(toIsi e2).bind fun b=>(toIsi e3).bind fun c=>
  if h:a.1.2=(n,("NotFalling" : Str))/\b.1.2.1=n/\c.1.2=(n,("NoDrawing" : Str))/\(t.bi a.1.1 "isinstance" && t.bi b.1.1 "isinstance" && t.bi c.1.1 "isinstance" && t.bi b.1.2.2 "ValueError" && t.glob ("NotFalling" : Str)&&t.glob ("NoDrawing" : Str))=true then
   some ⟨by
    obtain ⟨h1,h2,h3,h4⟩:=h
    simp only [Bool.and_eq_true] at h4
    have i1:=a.2;have i2:=b.2;have i3:=c.2
    rw [h1] at i1;rw [h2] at i2;rw [h3] at i3
    exact .mk i1 i2 i3 h4.1.1.1.1.1 h4.1.1.1.1.2 h4.1.1.1.2 h4.1.1.2 h4.1.2 h4.2⟩
  else none
 | _=>none
noncomputable def mkOk (t:TC) (z y:Str) (es:List Expr):Bool:=z==("Arc" : Str)&&t.glob ("Arc" : Str)&&(t.G.lookup ("len" : Str)).isNone&&!(y==("__debug__" : Str))&&!es.any starred
theorem SOk.mk {z y:Str} {np yp cpos pos:Pos} {e₁ e₂ e₃:Expr} {i:Nat} {a b c:PE×Cl} (ho:mkOk t z y [e₁,e₂,e₃]=true) (hs:t.slot y=some i) (hm:i∈t.mv) (ha:Ok t e₁ a.1 a.2) (hb:Ok t e₂ b.1 b.2) (hc:Ok t e₃ c.1 c.2) (hf:a.2=.fresh):SOk true t (.Return (some (.Call (.Name z np) [.Name y yp,e₁,e₂,e₃] [] cpos)) pos) (.retMk i a.1 b.1 c.1):=
 fun _ _ F q C K=>by
  subst q
  simp only [mkOk,Bool.and_eq_true,Bool.not_eq_true',Option.isNone_iff_eq_none] at ho
  exact retMk_sound F rfl (eq_of_beq ho.1.1.1.1) ho.1.1.1.2 ho.1.1.2 ho.1.2 (slotN F hs) (slotM F hm) (hf ▸ (ha _ _ F rfl C).1) (hb _ _ F rfl C).1 (hc _ _ F rfl C).1 ho.2
theorem SOk.retF {e:Expr} {pos:Pos} {a:PE×Cl} (ha:Ok t e a.1 a.2) (hk:a.2=.safe) (hf:FlatE a.1):SOk fr t (.Return (some e) pos) (.ret a.1):=fun _ _ F q C K=>by
 exact ret_sound F (flat_fresh (hk ▸ (ha _ _ F q C).1) hf) (by cases fr<;>rfl)
noncomputable def toNames (t:TC):(es:List Expr)->Option { r:List (Str×Pos)×List Nat // es=r.1.map (fun p=>.Name p.1 p.2)/\∀ f,FixOk f->f.t=t->AllAt f.c (Names f.c) r.1 r.2 }
 | []=>some ⟨([],[]),rfl,fun _ _ _=>trivial⟩
 | .Name x px::es=>match hs:t.slot x with
  | some i=>if hm:i∈t.mv then none else (toNames t es).bind fun r=>some ⟨((x,px)::r.1.1,i::r.1.2),congrArg (.Name x px::·) r.2.1,fun f F q=>⟨⟨slotN F (q ▸ hs),slotNM F (q ▸ hm),fun b hb=>hb.names⟩,r.2.2 f F q⟩⟩
  | none=>none
 | _=>none
theorem TgOk.many {es:List Expr} {ps:List (Str×Pos)} {is:List Nat} {k:Nat} {tp:Pos} (h:es=ps.map (fun p=>.Name p.1 p.2)) (ha:∀ f,FixOk f->f.t=t->AllAt f.c (Names f.c) ps is):TgOk t (.Tuple es k tp) (.many is):=by
 subst h;exact fun f F q=>.many (ha f F q)
noncomputable def toTgt (t:TC) (e:Expr):Option { tg:Tgt // TgOk t e tg }:=match e with
 | .Name x px=>(match hs:t.slot x with
  | some i=>if hm:i∈t.mv then none else some ⟨.one i,fun f F q=>.one (slotN F (q ▸ hs)) (slotNM F (q ▸ hm)) fun b hb=>hb.names⟩
  | none=>none)
 | .Tuple es k tp=>(toNames t es).bind fun r=>some ⟨.many r.1.2,.many r.2.1 r.2.2⟩
 | _=>none
noncomputable def toMk (fr:Bool) (n:Nat) (t:TC) (e:Expr) (pos:Pos):Option { p:PS // SOk fr t (.Return (some e) pos) p }:=match e with
 | .Call (.Name z np) [.Name y yp,e₁,e₂,e₃] [] cpos=>if ho:mkOk t z y [e₁,e₂,e₃]=true then (match hs:t.slot y with
  | some i=>(toPE n t e₁).bind fun a=>(toPE n t e₂).bind fun b=>(toPE n t e₃).bind fun c=>if h:i∈t.mv/\a.1.2=.fresh then (match fr with
   | true=>some ⟨_,.mk ho hs h.1 a.2 b.2 c.2 h.2⟩
   | false=>none) else none
  | none=>none) else none
 | _=>none
noncomputable def toTry (fr:Bool) (n:Nat) (t:TC) (body:List Stmt) (hs:List ExceptHandler) (pos:Pos):Option { p:PS // SOk fr t (.Try body hs [] [] pos) p }:=match body,hs with
 | [.Expr (.Call (.Name g gp) es [] cp) ep],[.ExceptHandler (some (.Name x xp)) (some v) [.Return (some cl) rp] hp]=>if ht:tryOk t g x v es=true then (match hl:t.G.lookup g with
   | some (.fn i ar fr')=>(toL (toPE n t) es).bind fun l=>(toCl t v cl).bind fun c=>if h:l.1.length=ar/\(l.1.map (·.2)).all Cl.inner=true then some ⟨_,.try ht hl l.2 h.1 h.2 c.1⟩ else none
   | _=>none) else none
 | _,_=>none
mutual
noncomputable def toPS (fr:Bool):Nat->(t:TC)->(st:Stmt)->Option { p:PS // SOk fr t st p }
 | 0,_,_=>none
 | n+1,t,st=>match st with
  | .Assign [.Name x px] (.ListComp elt [⟨target,iter,ifs,0⟩] scope cpos) pos=>(match hs:t.slot x with
   | some i=>(toComp (toPE n) t elt target iter ifs scope).bind fun r=>if hk:stOk t i .fresh=true then some ⟨_,.asgC hs r.2 hk⟩ else none
   | none=>none)
  | .Assign [.Name x px] value pos=>(match hs:t.slot x with
   | some i=>(toPE n t value).bind fun a=>if h:stOk t i a.1.2=true/\isComp value=false then some ⟨_,.asg hs a.2 h.1 h.2⟩ else none
   | none=>none)
  | .Assign [.Tuple es k tp] value pos=>(match toTgt t (.Tuple es k tp) with
   | some ⟨.many is,ht⟩=>(toPE n t value).bind fun a=>if h:a.1.2.inner=true/\(isComp value||isTuple value)=false then some ⟨_,.unp ht a.2 h.1 h.2⟩ else none
   | _=>none)
  | .Assign [.Subscript (.Name x xp) i sp] value pos=>(match hs:t.slot x with
   | some j=>(toPE n t value).bind fun a=>(toPE n t i).bind fun b=>if h:(x==("__debug__" : Str))=false/\j∈t.mv/\(a.1.2.inner&&b.1.2.inner)=true/\isComp value=false then some ⟨_,.sti h.1 hs h.2.1 a.2 b.2 h.2.2.1 h.2.2.2⟩ else none
   | none=>none)
  | .Expr (.Call (.Attribute (.Name x xp) m apos) [e] [] cpos) pos=>(match hs:t.slot x with
   | some j=>(toPE n t e).bind fun a=>if h:(x==("__debug__" : Str))=false/\j∈t.mv/\a.1.2.inner=true/\methOk e apos cpos=true then
     (if hm:m=("append" : Str) then some ⟨_,.app hm h.1 hs h.2.1 a.2 h.2.2.1 h.2.2.2⟩ else if hm:m=("update" : Str) then some ⟨_,.upd hm h.1 hs h.2.1 a.2 h.2.2.1 h.2.2.2⟩ else none) else none
   | none=>none)
  | .If test body orelse pos=>(toPE n t test).bind fun c=>(toPSs fr n t body).bind fun a=>(toPSs fr n t orelse).bind fun b=>some ⟨_,.ite c.2 a.2 b.2⟩
  | .For target iter body [] pos=>(toTgt t target).bind fun tg=>(toIt (toPE n t) (isTuple target) iter).bind fun r=>(toPSs fr n t body).bind fun b=>if h:r.1.2.2.inner=true then some ⟨_,.for tg.2 r.2 b.2 h⟩ else none
  | .While test body [] pos=>(toPE n t test).bind fun c=>(toPSs fr n t body).bind fun b=>some ⟨_,.whl c.2 b.2⟩
  | .Expr (.Call (.Name g gp) es [] cp) pos=>(toPE n t (.Call (.Name g gp) es [] cp)).bind fun a=>some ⟨_,.exp a.2 rfl⟩
  | .Try body hs [] [] pos=>toTry fr n t body hs pos
  | .Return (some e) pos=>(toMk fr n t e pos).or ((toPE n t e).bind fun a=>if h:(!fr||a.1.2==.fresh||a.1.2==.own)=true then some ⟨_,.ret a.2 h⟩ else if h:a.1.2=.safe then (toFlat a.1.1).bind fun u=>some ⟨_,.retF a.2 h u.2⟩ else none)
  | _=>none
noncomputable def toPSs (fr:Bool):Nat->(t:TC)->(ss:List Stmt)->Option { ps:List PS // SsOk fr t ss ps }
 | 0,_,_=>none
 | n+1,t,ss=>match ss with
  | []=>some ⟨[],fun _ _ F _ _ _=>nil_sound F⟩
  | st::r=>(toPSs fr n t r).bind fun q=>some ⟨((toPS fr n t st).getD ⟨.halt,.hlt⟩).1::q.1,fun _ _ F h C K=>cons_sound F (((toPS fr n t st).getD ⟨.halt,.hlt⟩).2 _ _ F h C K) (q.2 _ _ F h C K)⟩
end
end
noncomputable def fnOf (n:Nat) (os:List (Str×Opt)) (G:List (Str×GE)) (d:Def):Option Fn:=if (optOf os d.name).skip then some ⟨0,0,[]⟩ else (toPSs (optOf os d.name).fr n (tcOf os G d) d.body).map fun b=>{ slots:=(slotsOf d).length+6,arity:=d.args.args.length,body:=b.1 }
end Mine.Internal
end
section
namespace Mine.Internal
open PySem
theorem callX {P:List Fn} {n f:Nat} {args:List PV} {fn:Fn} (hl:P.length<=1000) (h:P[f]?=some fn):callN P (n+1) (f+1000) args=runR fn (callN P n) args:=by
 show (match P[f+1000]? with | some fn=>runFn fn (callN P n) args | Option.none=>if 1000<=f+1000 then (match P[f+1000-1000]? with | some fn=>runR fn (callN P n) args | Option.none=>.stuck) else .stuck)=_
 rw [List.getElem?_eq_none (Nat.le_trans hl (Nat.le_add_left _ _)),if_pos (Nat.le_add_left _ _),Nat.add_sub_cancel,h]
end Mine.Internal
end
section
namespace Mine.Internal
open PySem PySem.Spec PyProof.Rows
theorem bindL_mem {kd:Str->Option NameKind}:∀ {binds:List (Str×Value)} {m:Str->Option Value} {x:Str} {v:Value},(binds.map (·.1)).Nodup->(x,v)∈binds->kd x=some .local->bindL kd binds m x=some v
 | [],_,_,_,_,h,_=>by cases h
 | (n,u)::r,m,x,v,hn,h,hk=>by
  simp only [List.map_cons,List.nodup_cons] at hn
  have other:∀ {r:List (Str×Value)} {m:Str->Option Value},x∉r.map (·.1)->bindL kd r m x=m x:=by
   intro r
   induction r with
   | nil=>intro m _;rfl
   | cons q r ih=>
    intro m hq
    simp only [List.map_cons,List.mem_cons,not_or] at hq
    rw [bindL,ih hq.2]
    split
    ·exact if_neg hq.1
    ·rfl
  rcases List.mem_cons.mp h with e | hm
  ·cases e
   rw [bindL,other hn.1,if_pos hk,if_pos rfl]
  ·rw [bindL];exact bindL_mem hn.2 hm hk
theorem bindC_mem {kd:Str->Option NameKind}:∀ {binds:List (Str×Value)} {m:Str->Option Value} {x:Str} {v:Value},(binds.map (·.1)).Nodup->(x,v)∈binds->kd x≠some .local->bindC kd binds m x=some v
 | [],_,_,_,_,h,_=>by cases h
 | (n,u)::r,m,x,v,hn,h,hk=>by
  simp only [List.map_cons,List.nodup_cons] at hn
  have other:∀ {r:List (Str×Value)} {m:Str->Option Value},x∉r.map (·.1)->bindC kd r m x=m x:=by
   intro r
   induction r with
   | nil=>intro m _;rfl
   | cons q r ih=>
    intro m hq
    simp only [List.map_cons,List.mem_cons,not_or] at hq
    rw [bindC,ih hq.2]
    split
    ·rfl
    ·exact if_neg hq.1
  rcases List.mem_cons.mp h with e | hm
  ·cases e
   rw [bindC,other hn.1,if_neg hk,if_pos rfl]
  ·rw [bindC];exact bindC_mem hn.2 hm hk
theorem cellsFrom_some:∀ {names:List (Str×NameKind)} {n:Nat} {acc:List (Str×Addr)} {x:Str},((x,NameKind.cell)∈names\/∃ a,acc.lookup x=some a)->∃ a,(cellsFrom n names acc).lookup x=some a
 | [],n,acc,x,h=>by
  rcases h with h | h
  ·cases h
  ·exact h
 | (y,k)::r,n,acc,x,h=>by
  rw [cellsFrom]
  split
  ·rename_i hk
   refine cellsFrom_some ?_
   rcases h with h | ⟨a,ha⟩
   ·rcases List.mem_cons.mp h with e | h
    ·cases e;exact .inr ⟨n,by simp⟩
    ·exact .inl h
   ·right
    rw [List.lookup_cons]
    split
    ·exact ⟨_,rfl⟩
    ·exact ⟨a,ha⟩
  ·rename_i hk
   refine cellsFrom_some ?_
   rcases h with h | h
   ·rcases List.mem_cons.mp h with e | h
    ·cases e;exact absurd rfl hk
    ·exact .inl h
   ·exact .inr h
noncomputable def defOk (os:List (Str×Opt)) (d:Def):Bool:=
 d.args.posonlyargs.isEmpty&&d.args.vararg.isNone&&d.args.kwonlyargs.isEmpty&&d.args.kw_defaults.isEmpty&&d.args.kwarg.isNone&&d.args.defaults.isEmpty &&
 d.scope.kind==.function&&!d.scope.isCoroutine&&!d.scope.isGenerator&&decide ((slotsOf d).map (·.1)).Nodup &&
 (slotsOf d).all (fun p=>(d.scope.names.lookup p.1==some .local||d.scope.names.lookup p.1==some .cell)&&!(p.1==("__debug__" : Str))) &&
 (mvOf os d).all (fun i=>decide (d.args.args.length<=i))&&decide ((slotsOf d).length < 1000)
structure DefOk (os:List (Str×Opt)) (d:Def):Prop where
 params:d.args=⟨[],d.args.args,none,[],[],none,[]⟩
 kind:d.scope.kind=.function
 co:d.scope.isCoroutine=false
 gen:d.scope.isGenerator=false
 nodup:((slotsOf d).map (·.1)).Nodup
 kinds:∀ x i,(x,i)∈slotsOf d->(d.scope.names.lookup x=some .local\/d.scope.names.lookup x=some .cell)/\(x==("__debug__" : Str))=false
 mv:∀ i∈mvOf os d,d.args.args.length<=i
 few:(slotsOf d).length < 1000
theorem args_eta {po as ko:List Arg} {va kw:Option Arg} {kd:List (Option PySem.Expr)} {df:List PySem.Expr} (h1:po.isEmpty=true) (h2:va.isNone=true) (h3:ko.isEmpty=true) (h4:kd.isEmpty=true) (h5:kw.isNone=true) (h6:df.isEmpty=true):Arguments.mk po as va ko kd kw df=⟨[],as,none,[],[],none,[]⟩:=by
 rw [List.isEmpty_iff.1 h1,Option.isNone_iff_eq_none.1 h2,List.isEmpty_iff.1 h3,List.isEmpty_iff.1 h4,Option.isNone_iff_eq_none.1 h5,List.isEmpty_iff.1 h6]
theorem args_eta' {a:Arguments} (h1:a.posonlyargs.isEmpty=true) (h2:a.vararg.isNone=true) (h3:a.kwonlyargs.isEmpty=true) (h4:a.kw_defaults.isEmpty=true) (h5:a.kwarg.isNone=true) (h6:a.defaults.isEmpty=true):a=⟨[],a.args,none,[],[],none,[]⟩:=by cases a;exact args_eta h1 h2 h3 h4 h5 h6
theorem defOk_ok {os:List (Str×Opt)} {d:Def} (h:defOk os d=true):DefOk os d:=by
 have a13:=Bool.and_eq_true_iff.1 h
 have a12:=Bool.and_eq_true_iff.1 a13.1
 have a11:=Bool.and_eq_true_iff.1 a12.1
 have a10:=Bool.and_eq_true_iff.1 a11.1
 have a9:=Bool.and_eq_true_iff.1 a10.1
 have a8:=Bool.and_eq_true_iff.1 a9.1
 have a7:=Bool.and_eq_true_iff.1 a8.1
 have a6:=Bool.and_eq_true_iff.1 a7.1
 have a5:=Bool.and_eq_true_iff.1 a6.1
 have a4:=Bool.and_eq_true_iff.1 a5.1
 have a3:=Bool.and_eq_true_iff.1 a4.1
 have a2:=Bool.and_eq_true_iff.1 a3.1
 refine ⟨args_eta' a2.1 a2.2 a3.2 a4.2 a5.2 a6.2,eq_of_beq a7.2,(Bool.not_eq_true' _ ▸ a8.2),(Bool.not_eq_true' _ ▸ a9.2),of_decide_eq_true a10.2,fun x i hm=>?_,fun i hi=>of_decide_eq_true (List.all_eq_true.1 a12.2 i hi),of_decide_eq_true a13.2⟩
 have a:=Bool.and_eq_true_iff.1 (List.all_eq_true.1 a11.2 (x,i) hm)
 exact ⟨(Bool.or_eq_true_iff.1 a.1).imp eq_of_beq eq_of_beq,(Bool.not_eq_true' _ ▸ a.2)⟩
theorem slots_idx (d:Def):((slotsOf d).map (·.2)).Nodup:=by
 unfold slotsOf
 rw [List.zipIdx_map_snd]
 exact List.nodup_range' (step:=1)
theorem slots_get {d:Def} {x:Str} {i:Nat} (h:(x,i)∈slotsOf d):(paramsOf d.args++(d.scope.names.filter fun p=>(p.2==.local||p.2==.cell)&&!(paramsOf d.args).contains p.1).map (·.1))[i]?=some x:=by
 unfold slotsOf at h
 rw [List.mem_zipIdx_iff_getElem?] at h
 exact h
theorem slots_param {d:Def} {x:Str} {i:Nat} (h:(paramsOf d.args)[i]?=some x):(x,i)∈slotsOf d:=by
 unfold slotsOf
 rw [List.mem_zipIdx_iff_getElem?]
 obtain ⟨h1,h2⟩:=List.getElem?_eq_some_iff.mp h
 show _=some x
 rw [List.getElem?_append_left h1];exact h
structure FnAt (os:List (Str×Opt)) (B:Heap) (a:Addr) (d:Def):Prop where
 ok:DefOk os d
 obj:∃ o fd,B.get? a=some o/\o.data=.func fd/\fd.params=d.args/\fd.body=.stmts d.body/\fd.scope=d.scope/\fd.globals=mainGlobals/\fd.closure=[]/\fd.defaults=.none/\fd.builtins=builtinsNs/\B.CodeRec fd.code fd.qualname
inductive RkIs (t:TC):List Stmt->Nat×PE×PE->Prop where
 | mk {v x m:Str} {e test:Expr} {i mk:Nat} {vp xp ep mp cp rp ip:Pos} {rest:List Stmt} {a c:PE×Cl} (hs:t.slot v=some i) (ha:Ok t e a.1 a.2) (hk:stOk t i a.2=true) (he:isComp e=false) (hc:Ok t test c.1 c.2) (hg:t.glob x=true) (hx:x=("NotFalling" : Str)):
  RkIs t (.Assign [.Name v vp] e ep::.If test [.Raise (some (.Call (.Name x xp) [.Constant (.str m) mk mp] [] cp)) none rp] [] ip::rest) (i,a.1,c.1)
noncomputable def toRk (n:Nat) (t:TC) (body:List Stmt):Option { q:Nat×PE×PE // RkIs t body q }:=match body with
 | .Assign [.Name v _] e _::.If test [.Raise (some (.Call (.Name x _) [.Constant (.str _) _ _] [] _)) none _] [] _::_=>(match hs:t.slot v with
  | some i=>(toPE n t e).bind fun a=>(toPE n t test).bind fun c=>if h:t.glob x=true/\x=("NotFalling" : Str)/\stOk t i a.1.2=true/\isComp e=false then some ⟨(i,_,_),.mk hs a.2 h.2.2.1 h.2.2.2 c.2 h.1 h.2.1⟩ else none
  | none=>none)
 | _=>none
structure FnsOk (N:Nat) (os:List (Str×Opt)) (G:List (Str×GE)) (fa:Nat->Addr) (B:Heap) (ds:List Def) (fns:List Fn):Prop where
 fn:∀ x i ar fr,FnOf G x i ar fr->∃ d p,ds[i]?=some d/\fns[i]?=some p/\fnOf N os G d=some p/\(optOf os d.name).skip=false/\(optOf os d.name).fr=fr/\ar=d.args.args.length/\FnAt os B (fa i) d
 few:fns.length<=1000
 x:∀ i ar fr,G.lookup ("undone" : Str)=some (.fn i ar fr)->∃ d p q r,ds[i]?=some d/\fns[i]?=some p/\RkIs (tcOf os G d) d.body q/\p.body=.assign q.1 q.2.1::.ite q.2.2 [.halt] []::r
 o:∀ D m i ar fr,meths.lookup m=some (.fn i ar fr)->∀ d,notObj d=true->callN fns D i [d]=.stuck
section
theorem frs_deeper {A:Around} {env:Env} {L:Addr} (h:∃ l,A.frames=some l/\∀ e∈l,e.scope.kind≠.module/\∃ L,e.frame=some L) (hf:env.frame=some L):frs (A.deeper env)=L::frs A:=by
 obtain ⟨l,hl,_⟩:=h
 unfold frs
 rw [Around.frames_deeper hl,hl]
 simp [hf]
theorem rds_mem {h:Heap} {P:Addr->Prop} {ds:List PV} {vs:List Value} (r:Rds h P ds vs) {i:Nat} {d:PV} (hd:ds[i]?=some d):∃ v,vs[i]?=some v/\Rd h P d v:=r.get hd
theorem frame_sound {os:List (Str×Opt)} {G:List (Str×GE)} {fa:Nat->Addr} {B:Heap} {d:Def} {D i:Nat} (gnd:Gnd G fa B) (fat:FnAt os B (fa i) d) {A:Around} {s:Shared} {args:List PV} {vs:List Value} {P:Addr->Prop}
  (hal:args.length=d.args.args.length) (here:Here B (D+1) A s.heap) (hP:∀ a∈frs A,¬ P a) (hr:Rds s.heap P args vs) {R:Result->Shared->Prop}
  (run:∀ (fx:Fix) (own:Addr->Option Nat) (s₁:Shared),FixOk fx->fx.t=tcOf os G d->FrK fx->fx.B=B->fx.fa=fa->fx.D=D->fx.c.h0=s.heap->fx.c.P0=P->(∃ h1 t1,s₁=up s h1 t1) ->
   St fx.c own (args.map some++List.replicate ((slotsOf d).length+6-d.args.args.length) none) s₁->(∀ {h':Heap},GrowH (frs fx.c.A) s.heap h'->GrowH (frs A) s.heap h') ->
   wpAny (model prog w) fx.c.A (execs d.body fx.c.env) (fun f s'=>R (.ok (.ret (match f with | .ret v=>v | _=>.none))) s')
    (fun e s'=>wpAny (model prog w) fx.c.A (leaving fx.c.env e) (fun _ s''=>R (.error e) s'') (fun e' s''=>R (.error e') s'') s') s₁):
  codeAny (model prog w) A (.call (.ref (fa i)) ⟨vs,[]⟩) R s:=by
 obtain ⟨ok,o,fd,hob,hdata,hpar,hbody,hscope,hglob,hclo,hdef,hbui,hcode⟩:=fat
 have hvl:vs.length=d.args.args.length:=by rw [hr.length,hal]
 have hkB:∀ b o,B.get? b=some o->s.heap.get? b=some o:=fun b o h=>(here.base b o h).2
 have hnp:(paramsOf d.args).Nodup:=by
  have:=ok.nodup
  unfold slotsOf at this
  rw [List.zipIdx_map_fst] at this
  exact (List.nodup_append.mp this).1
 have hbind:bindArgs fd ⟨vs,[]⟩=pure ((paramsOf d.args).zip vs):=bind_plain (hpar.trans ok.params) hdef hvl hnp
 have hpl:(paramsOf d.args).length=vs.length:=by unfold paramsOf;rw [List.length_map,hvl]
 have hbn:(((paramsOf d.args).zip vs).map (·.1)).Nodup:=by rw [List.map_fst_zip (by exact o342 hpl)];exact hnp
 have hzip:∀ {x v},(x,v)∈(paramsOf d.args).zip vs->∃ j,(paramsOf d.args)[j]?=some x/\vs[j]?=some v:=fun {x v} hm=>by
  obtain ⟨j,hj,e⟩:=List.mem_iff_getElem.mp hm
  rw [List.getElem_zip] at e
  rw [List.length_zip] at hj
  refine ⟨j,?_,?_⟩
  ·rw [List.getElem?_eq_getElem (by exact o343 hj)];exact congrArg (some ·.1) e
  ·rw [List.getElem?_eq_getElem (by exact o344 hj)];exact congrArg (some ·.2) e
 have cellOk:∀ {x:Str} {n:Nat},d.scope.names.lookup x=some .cell->∃ a,(cellsFrom n d.scope.names []).lookup x=some a:=fun h=>cellsFrom_some (.inl (mem_of_lookup h))
 refine codeAny_call_cells (dep1 here.depth) (hkB _ _ hob) hdata (gnd.nolimit.keeps hkB) (hcode.keeps hkB) hbody hbind hclo (fun x hx=>?_) (fun s₁ hin=>?_) (by rw [hscope];exact ok.co) (by rw [hscope];exact ok.gen) (by rw [hscope];exact ok.kind)
 ·obtain ⟨j,hj,_⟩:=hzip (x:=x.1) (v:=x.2) hx
  rw [hscope]
  rcases (ok.kinds x.1 j (slots_param hj)).1 with h | h
  ·exact .inl h
  ·refine .inr ⟨h,?_⟩
   obtain ⟨a,ha⟩:=cellOk (n:=s.heap.objs.size+1) h
   rw [ha];rfl
 obtain ⟨⟨⟨h1,t1,rfl⟩,hns,hkeep,hfresh⟩,hcell,hapart,habove⟩:=hin
 dsimp only at hns hkeep hfresh hcell
 have hnewL:s.heap.get? s.heap.objs.size=none:=newSize s.heap
 generalize hL:s.heap.objs.size=L at *
 let env:=callEnvC fd L (fa i)
 have hefr:env.frame=some L:=rfl
 have hloc:env.locals=L:=rfl
 have hsc:env.scope=d.scope:=hscope
 have hcells:env.cells=cellsFrom (L+1) d.scope.names []:=by show cellsFrom (L+1) fd.scope.names []=_;rw [hscope]
 have hkind:∀ x,env.kindOf x=d.scope.names.lookup x:=fun x=>by show env.scope.names.lookup x=_;rw [hsc]
 let c:Cx:={ env:=env,A:=A.deeper env,h0:=s.heap,P0:=P,names:=slotsOf d,mv:=mvOf os d }
 have hfrs:frs (A.deeper env)=L::frs A:=frs_deeper here.frames hefr
 have hLfr:L∉frs A:=fun hm=>by
  obtain ⟨m,o',_,_,ho',_⟩:=here.fr L hm
  rw [hnewL] at ho';cases ho'
 have mvlt:∀ i∈mvOf os d,i < (slotsOf d).length:=fun j hj=>by
  obtain ⟨q,hq,e⟩:=List.mem_filterMap.mp hj
  split at e
  ·cases e
   have:=(List.getElem?_eq_some_iff.mp (slots_get hq)).1
   unfold slotsOf
   rw [List.length_zipIdx];exact this
  ·cases e
 have cok:CxOk c:={
  kind:=by show env.scope.kind=_;rw [hsc];exact ok.kind
  nodupN:=ok.nodup
  nodupI:=slots_idx d
  kinds:=fun x j hm=>by
   rcases (ok.kinds x j hm).1 with h | h
   ·exact .inl ((hkind x).trans h)
   ·refine .inr ⟨(hkind x).trans h,?_⟩
    show ∃ a,env.cells.lookup x=some a
    rw [hcells];exact cellOk h
  debug:=fun x j hm=>(ok.kinds x j hm).2
  apart:=hapart
  handled:=here.handled
  dumNot:=fun hm=>by
   have h1:=mvlt _ hm
   have h2:=ok.few
   unfold dum at h1
   exact (o346 h1 h2).elim
  units:=by show A.units+3+200 < cLine;have:=here.units;exact o347 this
  frames:=by
   obtain ⟨l,hl,hl2⟩:=here.frames
   refine ⟨env::l,Around.frames_deeper hl,fun e he=>?_⟩
   rcases List.mem_cons.mp he with rfl | he
   ·exact ⟨by (rw [hsc,ok.kind];exact fun q=>(by cases q)),L,rfl⟩
   ·exact hl2 e he }
 let fx:Fix:={ c:=c,t:=tcOf os G d,B:=B,fa:=fa,D:=D }
 have F:FixOk fx:={
  ok:=cok
  scope:=by show env.scope.names=_;rw [hsc];rfl
  names:=rfl
  mv:=rfl
  gl:=hglob
  bl:=hbui
  gnd:=gnd
  base:=fun b o hb=>⟨by
   show b∉frs (A.deeper env)
   rw [hfrs]
   intro hm
   rcases List.mem_cons.mp hm with rfl | hm
   ·rw [hkB b o hb] at hnewL;cases hnewL
   ·exact (here.base b o hb).1 hm,hkB b o hb⟩
  depth:=dep2 here.depth
  units:=by show A.units+3+20*D+300 < cLine;have:=here.units;exact o349 this
  cb:=fun x j hm=>by
   have:=(List.getElem?_eq_some_iff.mp (slots_get hm)).1
   show j < (slotsOf d).length
   unfold slotsOf
   rw [List.length_zipIdx];exact this
  mvb:=mvlt }
 let own:Addr->Option Nat:=fun a=>if a=L\/a∈frs A then some dum else none
 have hρ:∀ {j:Nat} {e:PV},(args.map some++List.replicate ((slotsOf d).length+6-d.args.args.length) none)[j]?=some (some e)->args[j]?=some e:=fun {j e} h=>by
  rcases Nat.lt_or_ge j args.length with hj | hj
  ·rw [List.getElem?_append_left (by simpa using hj),List.getElem?_map] at h
   cases q:args[j]? with
   | none=>rw [q] at h;cases h
   | some e'=>rw [q] at h;cases h;rfl
  ·rw [List.getElem?_append_right (by simpa using hj),List.getElem?_replicate] at h
   split at h<;>cases h
 have st:St c own (args.map some++List.replicate ((slotsOf d).length+6-d.args.args.length) none) (up s (h1) (t1)):=by
  refine ⟨.of_keeps hkeep,fun a ha=>?_,⟨if_pos (.inl rfl),_,hns⟩,hnewL,fun n a ha=>⟨_,hcell n a ha⟩,fun n a ha=>?_,fun a ha=>?_,fun a j ha hj=>?_,fun x j e hm he=>?_⟩
  ·have ha':a∈L::frs A:=hfrs ▸ ha
   rcases List.mem_cons.mp ha' with rfl | hm
   ·exact ⟨if_pos (.inl rfl),_,hns⟩
   ·obtain ⟨m,hm'⟩:=here.fr a hm
    exact ⟨if_pos (.inr hm),m,hm'.keeps hkeep⟩
  ·have:=habove n a (mem_of_lookup ha)
   cases q:s.heap.get? a with
   | none=>rfl
   | some o'=>have h2:=Heap.lt_size q;rw [hL] at h2;exact absurd h2 (Nat.not_lt.mpr (Nat.le_of_lt this))
  ·by_cases q:a=L\/a∈frs A
   ·rcases q with rfl | q
    ·obtain ⟨o',_,_,ho',_⟩:=hns;exact ⟨o',ho'⟩
    ·obtain ⟨m,o',_,_,ho',_⟩:=here.fr a q
     exact ⟨o',hkeep _ _ ho'⟩
   ·exact absurd (if_neg q) ha
  ·have:own a=some dum\/own a=none:=by
    by_cases q:a=L\/a∈frs A
    ·exact .inl (if_pos q)
    ·exact .inr (if_neg q)
   rcases this with q | q
   ·rw [q] at ha;cases ha;exact absurd hj cok.dumNot
   ·rw [q] at ha;cases ha
  ·have he':=hρ he
   obtain ⟨v,hv,hrv⟩:=rds_mem hr he'
   have hjl:j < args.length:=(List.getElem?_eq_some_iff.mp he').1
   have hx:(paramsOf d.args)[j]?=some x:=by
    have:=slots_get hm
    rwa [List.getElem?_append_left (by exact o350 hal (rfl:d.args.args.length=d.args.args.length) hvl hpl hjl)] at this
   have hxv:(x,v)∈(paramsOf d.args).zip vs:=by
    obtain ⟨h2,h3⟩:=List.getElem?_eq_some_iff.mp hx
    obtain ⟨h4,h5⟩:=List.getElem?_eq_some_iff.mp hv
    refine List.mem_iff_getElem.mpr ⟨j,by rw [List.length_zip];exact o351 hal (rfl:d.args.args.length=d.args.args.length) hvl hpl hjl,?_⟩
    rw [List.getElem_zip,h3,h5]
   refine ⟨v,?_,?_⟩
   ·rcases (ok.kinds x j hm).1 with h | h
    ·have hk:env.kindOf x=some .local:=(hkind x).trans h
     exact .inl hk _ hns (bindL_mem hbn hxv hk)
    ·have hk:env.kindOf x=some .cell:=(hkind x).trans h
     obtain ⟨a,ha⟩:=cellOk (n:=L+1) h
     have ha':env.cells.lookup x=some a:=by rw [hcells];exact ha
     refine .inr hk a ha' ?_
     have:=hcell x a ha'
     rwa [bindC_mem hbn hxv (by show env.kindOf x≠_;rw [hk];exact fun q=>by cases q)] at this
   ·have hmv:j∉mvOf os d:=fun hj=>by have:=ok.mv j hj;exact (o352 hal (rfl:d.args.args.length=d.args.args.length) hjl this).elim
    unfold VRd
    rw [if_neg (show j∉c.mv from hmv)]
    refine Rd.to (fun a o ho _=>hkeep a o ho) e (Rd.imp (fun a o ho _ pa=>⟨.inl pa,if_neg ?_⟩) e hrv)
    rintro (rfl | hm')
    ·rw [hnewL] at ho;cases ho
    ·exact hP a hm' pa
 have shrink:∀ {h':Heap},GrowH (frs (A.deeper env)) s.heap h'->GrowH (frs A) s.heap h':=fun {h'} g b o hb=>by
  obtain ⟨g1,g2⟩:=g b o hb
  refine ⟨fun hf=>g1 fun hm=>?_,g2⟩
  rw [hfrs] at hm
  rcases List.mem_cons.mp hm with rfl | hm
  ·rw [hnewL] at hb;cases hb
  ·exact hf hm
 exact run fx own _ F rfl ⟨let ⟨l,hl,_⟩:=here.frames;⟨l,Around.frames_deeper hl⟩,rfl⟩ rfl rfl rfl rfl rfl ⟨h1,t1,rfl⟩ st shrink
theorem call_v {N:Nat} {os:List (Str×Opt)} {G:List (Str×GE)} {fa:Nat->Addr} {B:Heap} {ds:List Def} {fns:List Fn} (K:FnsOk N os G fa B ds fns) (gnd:Gnd G fa B) {D:Nat} (ih:CF B fa G (callN fns D) D):CFv B fa G (callN fns (D+1)) (D+1):=
 fun A s f i ar fr args vs P hl hlen here hP hr hn=>by
  obtain ⟨d,p,hd,hp,hfn,hsk,hfr,har,fat⟩:=K.fn f i ar fr hl
  unfold fnOf at hfn
  rw [if_neg (by rw [hsk];exact Bool.false_ne_true)] at hfn
  obtain ⟨⟨b,hb⟩,_,rfl⟩:=Option.map_eq_some_iff.mp hfn
  have hal:args.length=d.args.args.length:=hlen.trans har
  have e:=(callS (n:=D) (args:=args) hp).trans (if_pos hal)
  refine frame_sound gnd fat hal here hP hr fun fx own s₁ F ht FK hB hfa hD h0 hP0 hs st shrink=>?_
  obtain ⟨h1,t1,rfl⟩:=hs
  refine wpAny_mono ((show ExsOK fx (callN fns D) fr d.body b from (hfr ▸ hb) _ fx F ht (by rw [hB,hfa,hD,ht];exact ih) FK) own _ _ st fun q=>hn (e.trans (by dsimp only;rw [q];rfl))) (fun fl s' q=>?_) fun _ _ q=>q.elim
  cases fl with
  | next=>
   obtain ⟨ρ',own',e1,x',ev,_⟩:=q
   obtain ⟨⟨h2,t2,rfl⟩,_⟩:=ev
   refine ⟨.none,e.trans (by dsimp only;rw [e1];rfl),⟨h2,t2,rfl,shrink (h0 ▸ x'.base)⟩,?_⟩
   unfold RetRd
   split<;>rfl
  | ret v=>
   obtain ⟨dv,e1,⟨h2,t2,rfl⟩,g,rr⟩:=q
   rw [h0] at g rr
   rw [hP0] at rr
   exact ⟨dv,e.trans (by dsimp only;rw [e1];rfl),⟨h2,t2,rfl,shrink g⟩,rr⟩
  | brk=>exact q.elim
  | cont=>exact q.elim
theorem rk_run {fx:Fix} {cf:Nat->List PV->Res PV} (F:FixOk fx) (C:CF fx.B fx.fa fx.t.G cf fx.D) {body:List Stmt} {q:Nat×PE×PE} (rk:RkIs fx.t body q) {own:Addr->Option Nat} {ρ:Slots} {s₁:Shared} (st:St fx.c own ρ s₁) {r:List PS}
  (hn:exr cf ρ (.assign q.1 q.2.1::.ite q.2.2 [.halt] []::r)≠Res.stuck) {Q:Flow->Shared->Prop} {E:Value->Shared->Prop} (hE:∀ C D R a h' tk,Exc2 fx.B C D R->UpX fx C a (up s₁ h' tk)->E (.ref a) (up s₁ h' tk)):
  wpAny (model prog w) fx.c.A (execs body fx.c.env) Q E s₁:=by
 obtain ⟨hsl,ha,hk,he,hc,hg,hx⟩:=rk
 rename_i v0 x0 m0 e0 t0 i0 k0 r0 r1 r2 r3 r4 r5 r6 rest0 a0 c0
 have hn':((ev cf ρ a0.1).bind fun d=>(ev cf (ρ.set i0 (some d)) c0.1).bind fun x=>match x with | .bool b=>if b then Res.ok PV.none else .stuck | _=>.stuck)≠Res.stuck:=hn
 obtain ⟨d1,q1,hn'⟩:=bind_ok' hn'
 have e2:ex cf ρ (.assign i0 a0.1)=.ok (.next (ρ.set i0 (some d1))):=by rw [xE1,q1];rfl
 refine wpAny_execs_cons (wpAny_mono (assign_sound (fr:=false) F (slotN F hsl) (ha _ _ F rfl C).1 hk (swaps_not he) own ρ s₁ st (fun z=>by rw [e2] at z;cases z)) (fun fl s₂ z=>?_) fun _ _ z=>z.elim)
 rw [e2] at z
 cases fl with
 | next=>
  obtain ⟨ρ2,own2,e2,x2,⟨⟨h2,t2,rfl⟩,_⟩,in2⟩:=z
  cases e2
  refine wpAny_execs_cons (wpAny_If ((hc _ _ F rfl C).2.use F x2 hn' (fun dv hdv=>?_) fun tb s₃ e3 e4 hn2 g2 x3=>?_))
  ·cases dv with
   | bool b=>exact absurd rfl (hdv b)
   | _=>rfl
  cases tb with
  | false=>exact absurd rfl hn2
  | true=>
   refine wpAny_execs_cons (wpAny_mono (raise_sound F hg hx x3 (Q:=fun _ _=>False)) (fun _ _ q=>q.elim) fun v s' q=>?_)
   obtain ⟨C',D',R',a,h',tk,ex,rfl,rfl,u⟩:=q
   obtain ⟨h3,t3,rfl,_⟩:=g2
   exact hE _ _ _ _ _ _ ex u
 | ret v=>obtain ⟨_,e1,_⟩:=z;cases e1
 | brk=>exact z.elim
 | cont=>exact z.elim
theorem call_x {N:Nat} {os:List (Str×Opt)} {G:List (Str×GE)} {fa:Nat->Addr} {B:Heap} {ds:List Def} {fns:List Fn} (K:FnsOk N os G fa B ds fns) (gnd:Gnd G fa B) {D:Nat} (ih:CF B fa G (callN fns D) D):CFx B fa G (callN fns (D+1)) (D+1):=
 fun A s i ar fr args vs P hl hlen here hP hr hn=>by
  obtain ⟨d,p,hd,hp,hfn,hsk,hfr,har,fat⟩:=K.fn _ i ar fr (.inl hl)
  obtain ⟨d',p',q,r,hd',hp',rk,hpb⟩:=K.x i ar fr hl
  cases hd.symm.trans hd'
  cases hp.symm.trans hp'
  have hal:args.length=d.args.args.length:=hlen.trans har
  unfold fnOf at hfn
  rw [if_neg (by rw [hsk];exact Bool.false_ne_true)] at hfn
  obtain ⟨⟨b,hb⟩,_,rfl⟩:=Option.map_eq_some_iff.mp hfn
  have hcall:=(callX (n:=D) (args:=args) K.few hp).trans (if_pos hal)
  dsimp only at hpb hcall
  rw [hpb] at hcall
  refine frame_sound gnd fat hal here hP hr fun fx own s₁ F ht FK hB hfa hD h0 hP0 hs st shrink=>?_
  refine rk_run F (by rw [hB,hfa,hD,ht];exact ih) (ht ▸ rk) st (r:=r) (fun z=>hn (hcall.trans z)) fun C' D' R' a h' tk ex u=>?_
  obtain ⟨outer,hfr'⟩:=FK.frames
  refine u.leave F hfr' FK.frame fun h'' gone=>?_
  obtain ⟨h1,t1,rfl⟩:=hs
  obtain ⟨g,_,hn3,ht3⟩:=gone
  rw [h0] at g hn3 ht3
  exact ⟨C',D',R',a,h'',_,hB ▸ ex,rfl,rfl,shrink g,hn3,ht3⟩
theorem call_sound {N:Nat} {os:List (Str×Opt)} {G:List (Str×GE)} {fa:Nat->Addr} {B:Heap} {ds:List Def} {fns:List Fn} (K:FnsOk N os G fa B ds fns) (gnd:Gnd G fa B) (D:Nat):CF B fa G (callN fns D) D:=by
 induction D with
 | zero=>exact ⟨fun A s f i ar fr args vs P hl hlen here hP hr hn=>absurd rfl hn,K.o 0,fun A s i ar fr args vs P hl hlen here hP hr hn=>absurd rfl hn⟩
 | succ D ih=>exact ⟨call_v K gnd ih,K.o (D+1),call_x K gnd ih⟩
end
end Mine.Internal
end
section
set_option backward.eqns.nonrecursive false
namespace Mine.Internal
open PySem PySem.Spec PyProof.Rows
noncomputable def recDef (r:DefRec):Def:=⟨r.name,r.params,r.body,r.scope⟩
noncomputable abbrev gdefs (p:Program):List Def:=(recsOf p).map recDef
noncomputable def mDef (nm:Str):Def:=⟨(mthR nm).name,(mthR nm).params,(mthR nm).body,(mthR nm).scope⟩
noncomputable def mdefs:List Def:=[mDef "face",mDef "leads",mDef "drawing"]
noncomputable abbrev defs (p:Program):List Def:=gdefs p++mdefs
noncomputable def refOf (mg:Str->Option Value) (x:Str):Addr:=match mg x with
 | some (.ref a)=>a
 | _=>0
noncomputable def faOf (p:Program) (mg mN:Str->Option Value) (i:Nat):Addr:=match (gdefs p)[i]? with
 | some d=>refOf mg d.name
 | none=>(match meths.find? fun q=>(match q.2 with | .fn j _ _=>j==i | _=>false) with
  | some q=>refOf mN q.1
  | none=>0)
noncomputable def moreOk (p:Program):Str×GE->Prop
 | (x,.const (.int i))=>valOf p x=some (.int i)
 | _=>False
noncomputable def plainOk (p:Program) (loose:List Str):Bool:=biTable.all fun q=>!(startupNames.contains q.1)&&!(loose.contains q.1)&&!(((recsOf p).map (·.name)).contains q.1)&&!(((litsOf p).map (·.1)).contains q.1)&&!(((clssOf p loose).map (·.name)).contains q.1)
theorem bi_boot:∀ x v,(x,v)∈biTable->x≠("__name__" : Str)/\bootBuiltins x=some v:=by
 have h:∀ q∈biTable,q.1≠("__name__" : Str)/\bootBuiltins q.1=some q.2:=by
  intro q hq
  simp only [biTable,List.mem_cons,List.not_mem_nil,or_false] at hq
  rcases hq with rfl | rfl | rfl | rfl | rfl | rfl | rfl | rfl | rfl | rfl | rfl | rfl | rfl | rfl<;>exact ⟨by decide,by decide +kernel⟩
 exact fun x v hm=>h (x,v) hm
theorem mkG_fn {os:List (Str×Opt)} {ds:List Def} {more:List (Str×GE)} {x:Str} {e:GE} (h:(mkG os ds more).lookup x=some e):
  (∃ i d,ds[i]?=some d/\d.name=x/\(optOf os d.name).skip=false/\e=.fn i d.args.args.length (optOf os d.name).fr)\/(x,e)∈more:=by
 have hm:=mem_of_lookup h
 unfold mkG at hm
 rcases List.mem_append.mp hm with hm | hm
 ·obtain ⟨q,hq,e'⟩:=List.mem_map.mp hm
  obtain ⟨hq,hs⟩:=List.mem_filter.mp hq
  obtain ⟨d,i⟩:=q
  cases e'
  rw [List.mem_zipIdx_iff_getElem?] at hq
  exact .inl ⟨i,d,hq,rfl,by simpa using hs,rfl⟩
 ·exact .inr hm
set_option maxRecDepth 100000 in
theorem face_find:arcRec.meths.find? (fun r=>r.name==("face" : Str))=some (mthR "face"):=by kernel_rfl
set_option maxRecDepth 100000 in
theorem leads_find:arcRec.meths.find? (fun r=>r.name==("leads" : Str))=some (mthR "leads"):=by kernel_rfl
set_option maxRecDepth 100000 in
theorem drawing_find:arcRec.meths.find? (fun r=>r.name==("drawing" : Str))=some (mthR "drawing"):=by kernel_rfl
theorem meth_cases {x:Str} {i ar:Nat} {fr:Bool} (h:meths.lookup x=some (.fn i ar fr)):ar=1/\30<=i/\mdefs[i-30]?=some (mDef x)/\arcRec.meths.find? (fun r=>r.name==x)=some (mthR x)/\(meths.find? fun q=>(match q.2 with | .fn j _ _=>j==i | _=>false))=some (x,.fn i ar fr):=by
 have hm:=mem_of_lookup h
 simp only [meths,List.mem_cons,List.not_mem_nil,or_false,Prod.mk.injEq,GE.fn.injEq] at hm
 rcases hm with ⟨rfl,rfl,rfl,rfl⟩ | ⟨rfl,rfl,rfl,rfl⟩ | ⟨rfl,rfl,rfl,rfl⟩
 ·exact ⟨rfl,by decide,rfl,face_find,rfl⟩
 ·exact ⟨rfl,by decide,rfl,leads_find,rfl⟩
 ·exact ⟨rfl,by decide,rfl,drawing_find,rfl⟩
section
variable {p:Program} {loose:List Str} {mean:ExcName->Option Value} {mg mb mN:Str->Option Value} {h:Heap} {N:Addr} {os:List (Str×Opt)} {more:List (Str×GE)} {newId Bn initId:String} {bm:List Value}
theorem top_fn (T:Top p loose mean mg mb h) {i:Nat} {d:Def} (hd:(gdefs p)[i]?=some d):∃ o pm code doc,mg d.name=some (.ref (faOf p mg mN i))/\h.get? (faOf p mg mN i)=some o/\o.data=.func (PySem.Calls.docDef d.name d.args d.body d.scope pm code doc)/\h.CodeRec code d.name:=by
 have hm:=List.mem_of_getElem? hd
 obtain ⟨r,hr,rfl⟩:=List.mem_map.mp hm
 obtain ⟨a,o,pm,code,doc,h1,h2,h3,h4⟩:=T.fn r hr
 have:faOf p mg mN i=a:=by
  unfold faOf
  rw [hd]
  show refOf mg r.name=a
  unfold refOf
  rw [h1]
 rw [this]
 exact ⟨o,pm,code,doc,h1,h2,h3,h4⟩
theorem top_meth (hlen:(gdefs p).length=30) (P:PlainAt h arcRec CA N mN) {x:Str} {i ar:Nat} {fr:Bool} (hm:meths.lookup x=some (.fn i ar fr)):
  ∃ o pm cd doc,mN x=some (.ref (faOf p mg mN i))/\h.get? (faOf p mg mN i)=some o/\o.cls=.type "function" /\ o.data=.func (methDef (mthR x).name (arcRec.name ++ "." ++ (mthR x).name) (mthR x).params (mthR x).body (mthR x).scope pm cd doc)/\h.CodeRec cd (arcRec.name ++ "." ++ (mthR x).name):=by
 obtain ⟨_,h33,_,hf,hq⟩:=meth_cases hm
 obtain ⟨a,o,pm,cd,doc,h1,h2,h3,h4,h5⟩:=meth_get P hf
 have:faOf p mg mN i=a:=by
  unfold faOf
  rw [List.getElem?_eq_none (by omega)]
  dsimp only
  rw [hq]
  show refOf mN x=a
  unfold refOf
  rw [h1]
 rw [this]
 exact ⟨o,pm,cd,doc,h1,h2,h3,h4,h5⟩
theorem gnd_of_top (T:Top p loose mean mg mb h) (X:XcAt mg h) (FB:ExcBaseFacts Bn newId initId bm) (hsp:specOf p ("NotFalling" : Str)=some (newId,bm)) (hA:mg ("Arc" : Str)=some (.ref CA)) (P:PlainAt h arcRec CA N mN) (hlen:(gdefs p).length=30) (hmore:∀ q∈more,moreOk p q) (hpl:plainOk p loose=true):Gnd (mkG os (gdefs p) more) (faOf p mg mN) h where
 g:=by
  refine ⟨mg,T.g,fun x e hl=>?_,fun x v hm hn=>?_,hA⟩
  ·rcases mkG_fn hl with ⟨i,d,hd,rfl,_,rfl⟩ | hm
   ·obtain ⟨o,pm,code,doc,h1,_⟩:=top_fn (mN:=mN) T hd
    exact ⟨_,h1,rfl⟩
   ·have:=hmore _ hm
    cases e with
    | fn _ _ _=>exact this.elim
    | const d=>
     cases d with
     | int i=>
      obtain ⟨v,hv,hr⟩:=T.const x (.int i) this
      refine ⟨v,hv,i,?_⟩
      cases hr h with
      | int _ t=>exact ⟨t,rfl,rfl⟩
     | _=>exact this.elim
  ·have:=List.all_eq_true.mp hpl (x,v) hm
   simp only [Bool.and_eq_true,Bool.not_eq_true',List.contains_eq_mem,decide_eq_false_iff_not] at this
   obtain ⟨⟨⟨⟨h1,h2⟩,h3⟩,h4⟩,h5⟩:=this
   exact T.free x h1 h2 h3 h4 h5
 b:=⟨mb,T.b,fun x v hm=>by
  obtain ⟨h1,h2⟩:=bi_boot x v hm
  rw [T.builtins x h1];exact h2⟩
 nolimit:=T.nolimit
 fn:=fun x i ar fr hl=>by
  rcases mkG_fn hl with ⟨j,d,hd,rfl,_,e⟩ | hm
  ·cases e
   obtain ⟨o,pm,code,doc,_,h2,h3,_⟩:=top_fn (mN:=mN) T hd
   exact ⟨o,_,h2,h3⟩
  ·exact (hmore _ hm).elim
 arc:=⟨N,mN,P,fun x i ar fr hm=>by
  obtain ⟨o,pm,cd,doc,h1,h2,h3,h4,_⟩:=top_meth (mg:=mg) hlen P hm
  exact ⟨h1,o,_,h2,h3,h4⟩⟩
 x:=by
  obtain ⟨C,O,_⟩:=T.ownAt hsp
  obtain ⟨K,C',D,R,hK,h1,h2,h3,h4⟩:=X
  have e:=O.bound.symm.trans h1
  injection e with e;injection e with e;subst e
  exact ⟨C,D,R,⟨bm,newId,Bn,initId,mg,T.g,h2,h3,O,FB⟩,K,hK,h4⟩
structure RkAt (p:Program) (N:Nat) (os:List (Str×Opt)) (G:List (Str×GE)) (fns:List Fn) (k:Nat) (q:Nat×PE×PE):Prop where
 few:fns.length<=1000
 rk:((gdefs p)[k]?.bind fun d=>(toRk N (tcOf os G d) d.body).map (·.1))=some q
 lk:∃ ar fr,G.lookup ("undone" : Str)=some (.fn k ar fr)
 fk:∃ f r,fns[k]?=some f/\f.body=.assign q.1 q.2.1::.ite q.2.2 [.halt] []::r
theorem fns_of_top (T:Top p loose mean mg mb h) (P:PlainAt h arcRec CA N mN) (hlen:(gdefs p).length=30) (hmore:∀ q∈more,moreOk p q) {K:Nat} {fns:List Fn} {k:Nat} {rq:Nat×PE×PE} (rk:RkAt p K os (mkG os (gdefs p) more) fns k rq) (hok:((defs p).all fun d=>(optOf os d.name).skip||defOk os d)=true) (hf:(defs p).map (fnOf K os (mkG os (gdefs p) more))=fns.map some)
  (hms:∀ x i ar fr,meths.lookup x=some (.fn i ar fr)->(optOf os (mDef x).name).skip=false/\(optOf os (mDef x).name).fr=fr/\(mDef x).args.args.length=1)
  (ho:∀ D m i ar fr,meths.lookup m=some (.fn i ar fr)->∀ d,notObj d=true->callN fns D i [d]=.stuck):FnsOk K os (mkG os (gdefs p) more) (faOf p mg mN) h (defs p) fns where
 o:=ho
 few:=rk.few
 x:=fun i ar fr hl=>by
  obtain ⟨ar',fr',hl'⟩:=rk.lk
  rw [hl] at hl'
  cases hl'
  obtain ⟨d,hd,e⟩:=Option.bind_eq_some_iff.mp rk.rk
  obtain ⟨⟨q,hq⟩,_,e⟩:=Option.map_eq_some_iff.mp e
  obtain ⟨f,r,h1,h2⟩:=rk.fk
  dsimp only at e
  subst e
  have hd':(defs p)[k]?=some d:=by
   have hlt:=(List.getElem?_eq_some_iff.mp hd).1
   show (gdefs p++mdefs)[k]?=some d
   rw [List.getElem?_append_left hlt];exact hd
  exact ⟨d,f,_,r,hd',h1,hq,h2⟩
 fn:=fun x i ar fr hl=>by
  have get:∀ {d:Def},(defs p)[i]?=some d->∃ f,fns[i]?=some f/\fnOf K os (mkG os (gdefs p) more) d=some f:=fun {d} hd=>by
   have h5:=congrArg (fun l=>l[i]?) hf
   rw [List.getElem?_map,List.getElem?_map,hd] at h5
   cases q:fns[i]? with
   | none=>rw [q] at h5;cases h5
   | some f=>
    rw [q] at h5
    exact ⟨f,rfl,Option.some.inj h5⟩
  have okd:∀ {d:Def},(defs p)[i]?=some d->(optOf os d.name).skip=false->DefOk os d:=fun {d} hd hs=>by
   have:=List.all_eq_true.mp hok d (List.mem_of_getElem? hd)
   rw [hs,Bool.false_or] at this
   exact defOk_ok this
  rcases hl with hl | hl
  ·rcases mkG_fn hl with ⟨j,d,hd,rfl,hs,e⟩ | hm
   ·cases e
    obtain ⟨o,pm,code,doc,h1,h2,h3,h4⟩:=top_fn (mN:=mN) T hd
    have hd':(defs p)[i]?=some d:=by
     have hlt:=(List.getElem?_eq_some_iff.mp hd).1
     show (gdefs p++mdefs)[i]?=some d
     rw [List.getElem?_append_left hlt];exact hd
    obtain ⟨f,hf1,hf2⟩:=get hd'
    exact ⟨d,f,hd',hf1,hf2,hs,rfl,rfl,okd hd' hs,o,_,h2,h3,rfl,rfl,rfl,rfl,rfl,rfl,rfl,h4⟩
   ·exact (hmore _ hm).elim
  ·obtain ⟨rfl,h33,hmd,hff,_⟩:=meth_cases hl
   obtain ⟨s1,s2,s3⟩:=hms _ _ _ _ hl
   obtain ⟨o,pm,cd,doc,h1,h2,h3,h4,h5⟩:=top_meth (p:=p) (mg:=mg) hlen P hl
   have hd':(defs p)[i]?=some (mDef x):=by
    show (gdefs p++mdefs)[i]?=some (mDef x)
    rw [List.getElem?_append_right (by omega),hlen];exact hmd
   obtain ⟨f,hf1,hf2⟩:=get hd'
   exact ⟨mDef x,f,hd',hf1,hf2,s1,s2,s3.symm,okd hd' s1,o,_,h2,h4,rfl,rfl,rfl,rfl,rfl,rfl,rfl,h5⟩
theorem rds_ints {P:Addr->Prop}:∀ {vs:List Value} {ns:List Int},IntsAre vs ns->Rds h P (ns.map .int) vs
 | _,_,.nil=>rfl
 | _,_,.cons n t r=>⟨_,_,rfl,⟨t,rfl⟩,rds_ints r⟩
theorem entry {s₁:Shared} (T:Top p loose mean mg mb s₁.heap) (X:XcAt mg s₁.heap) (FB:ExcBaseFacts Bn newId initId bm) (hsp:specOf p ("NotFalling" : Str)=some (newId,bm)) (hA:mg ("Arc" : Str)=some (.ref CA)) (P:PlainAt s₁.heap arcRec CA N mN) (hlen:(gdefs p).length=30) (hmore:∀ q∈more,moreOk p q) (hpl:plainOk p loose=true) {K:Nat} {fns:List Fn} {k:Nat} {rq:Nat×PE×PE} (rk:RkAt p K os (mkG os (gdefs p) more) fns k rq) (hok:((defs p).all fun d=>(optOf os d.name).skip||defOk os d)=true) (hf:(defs p).map (fnOf K os (mkG os (gdefs p) more))=fns.map some)
  (hms:∀ x i ar fr,meths.lookup x=some (.fn i ar fr)->(optOf os (mDef x).name).skip=false/\(optOf os (mDef x).name).fr=fr/\(mDef x).args.args.length=1)
  (ho:∀ D m i ar fr,meths.lookup m=some (.fn i ar fr)->∀ d,notObj d=true->callN fns D i [d]=.stuck)
  {x:Str} {i:Nat} (hx:(mkG os (gdefs p) more).lookup x=some (.fn i 1 false)) {fa a:Addr} (hfa:mg x=some (.ref fa)) {vs:List Value} {ns:List Int} (hL:s₁.heap.get? a=some { cls:=.type "list",data:=.seq vs.toArray }) (hI:IntsAre vs ns) (hn:ns.length<=lim)
  {D:Nat} (hD:D<=30) {d:PV} (hp:callN fns D i [.list (ns.map .int)]=.ok d):
  codeAny (model prog w) callerA (.call (.ref fa) ⟨[.ref a],[]⟩) (fun r s'=>∃ v,r=.ok (.ret v)/\Rd s'.heap (fun _=>True) d v/\(∀ b o,s₁.heap.get? b=some o->s'.heap.get? b=some o)/\∃ h' tk,s'=(up s₁ (h') (tk))) s₁:=by
 have G:=gnd_of_top (os:=os) T X FB hsp hA P hlen hmore hpl
 have KK:=fns_of_top T P hlen hmore rk hok hf hms ho
 have hfa':fa=faOf p mg mN i:=by
  rcases mkG_fn hx with ⟨j,dd,hdd,hxn,_,e⟩ | hm
  ·injection e with e _ _
   subst e
   obtain ⟨o,pm,code,doc,h3,_⟩:=top_fn (mN:=mN) T hdd
   rw [hxn,hfa] at h3
   injection h3 with h3
   injection h3
  ·exact (hmore _ hm).elim
 subst hfa'
 have hfr:frs callerA=[]:=rfl
 have here:Here s₁.heap D callerA s₁.heap:={
  handled:=rfl
  depth:=show 1+claimMargin+D+10 < recursionLimit by have h1:=(show claimMargin=300 by decide +kernel);have h2:=(show recursionLimit=1000 by decide +kernel);omega
  units:=by show 4+20*D+300 < cLine;unfold cLine;omega
  frames:=⟨[],rfl,fun e he=>by cases he⟩
  fr:=fun a ha=>by rw [hfr] at ha;cases ha
  base:=fun b o hb=>⟨by (rw [hfr];exact fun q=>(by cases q)),hb⟩ }
 refine codeAny_mono ((call_sound KK G D).v callerA s₁ x i 1 false [.list (ns.map .int)] [.ref a] (fun _=>True) (.inl hx) rfl here (fun a ha=>by rw [hfr] at ha;cases ha) ⟨.ref a,[],rfl,⟨a,vs.toArray,rfl,trivial,⟨0,hL⟩,by rw [List.length_map];exact hn,by simpa using rds_ints hI⟩,rfl⟩ (by rw [hp];exact fun q=>by cases q)) fun r s' q=>?_
 cases r with
 | ok f=>
  cases f with
  | ret v=>
   obtain ⟨d',e1,g,rr⟩:=q
   rw [hp] at e1
   cases e1
   obtain ⟨h',tk,rfl,g'⟩:=g
   exact ⟨v,rfl,Rd.imp (fun _ _ _ _ _=>trivial) d rr,fun b o hb=>(g' b o hb).1 (by rw [hfr];exact fun q=>by cases q),h',tk,rfl⟩
  | next=>exact q.elim
  | brk=>exact q.elim
  | cont=>exact q.elim
 | error x=>exact q.elim
end
end Mine.Internal
end
section
namespace Mine.Internal
noncomputable def itr {α:Type} (f:α->α):Nat->α->α
 | 0,x=>x
 | k+1,x=>f (itr f k x)
theorem itr0 {α:Type} {f:α->α} {x:α}:itr f 0 x=x:=rfl
theorem itrS {α:Type} {f:α->α} {k:Nat} {x:α}:itr f (k+1) x=f (itr f k x):=rfl
theorem itr_add {α:Type} (f:α->α) (a b:Nat) (x:α):itr f (a+b) x=itr f a (itr f b x):=by
 induction a with
 | zero=>simp [itr0]
 | succ a ih=>rw [show a+1+b=(a+b)+1 by exact o1];simp [itrS,ih]
theorem itr_mul {α:Type} (f:α->α) (m:Nat) (x:α) (h:itr f m x=x):∀ k,itr f (k*m) x=x
 | 0=>by simp [itr0]
 | k+1=>by rw [Nat.add_mul,Nat.one_mul,itr_add,h,itr_mul f m x h k]
theorem nodup_le {α:Type} [BEq α] [LawfulBEq α]:∀ {l m:List α},l.Nodup->(∀ x∈l,x∈m)->l.length<=m.length
 | [],_,_,_=>by simp
 | a::t,m,hn,hs=>by
  have h1:=List.nodup_cons.1 hn
  have ha:a∈m:=hs a (by simp)
  have:∀ x∈t,x∈m.erase a:=fun x hx=>(List.mem_erase_of_ne (by rintro rfl;exact h1.1 hx)).2 (hs x (by simp [hx]))
  have h2:=nodup_le h1.2 this
  rw [List.length_erase_of_mem ha] at h2
  have:0 < m.length:=List.length_pos_of_mem ha
  simp;exact o3 h2 this
noncomputable def Reach {α:Type} (f:α->α) (x y:α):Prop:=∃ k,itr f k x=y
section
variable {α:Type} [DecidableEq α] {f g:α->α} {S:List α}
theorem Reach.refl (x:α):Reach f x x:=⟨0,rfl⟩
theorem Reach.step (x:α):Reach f x (f x):=⟨1,rfl⟩
theorem Reach.trans {x y z:α} (a:Reach f x y) (b:Reach f y z):Reach f x z:=by
 obtain ⟨i,rfl⟩:=a;obtain ⟨j,rfl⟩:=b;exact ⟨j+i,itr_add f j i x⟩
theorem itr_mem (hc:∀ x∈S,f x∈S) {x:α} (hx:x∈S):∀ k,itr f k x∈S
 | 0=>hx
 | k+1=>hc _ (itr_mem hc hx k)
theorem Reach.mem (hc:∀ x∈S,f x∈S) {x y:α} (hx:x∈S) (r:Reach f x y):y∈S:=by
 obtain ⟨k,rfl⟩:=r;exact itr_mem hc hx k
theorem itr_back (hc:∀ x∈S,f x∈S) (hg:∀ x∈S,g (f x)=x) {x:α} (hx:x∈S):∀ i d,itr f i x=itr f (i+d) x->x=itr f d x
 | 0,d,h=>by simpa [itr0,itrS] using h
 | i+1,d,h=>by
  rw [show i+1+d=(i+d)+1 by exact o1] at h
  simp only [itrS] at h
  have:=congrArg g h
  rw [hg _ (itr_mem hc hx _),hg _ (itr_mem hc hx _)] at this
  exact itr_back hc hg hx i d this
theorem period (hc:∀ x∈S,f x∈S) (hg:∀ x∈S,g (f x)=x) {x:α} (hx:x∈S):∃ m,0 < m/\itr f m x=x:=by
 let l:=(List.range (S.length+1)).map fun k=>itr f k x
 have hnd:¬ l.Nodup:=fun h=>by
  have:=nodup_le (m:=S) h (fun y hy=>by
   obtain ⟨k,-,rfl⟩:=List.mem_map.1 hy
   exact itr_mem hc hx k)
  simp [l] at this
  exact (o2 this).elim
 have:∃ i j,i < j/\itr f i x=itr f j x:=Classical.byContradiction fun hn=>hnd (by
  rw [List.Nodup,List.pairwise_iff_getElem]
  intro i j hi hj hij e
  simp [l] at e
  exact hn ⟨i,j,hij,e⟩)
 obtain ⟨i,j,hij,e⟩:=this
 refine ⟨j-i,by exact o5 hij,?_⟩
 have:=itr_back hc hg hx i (j-i) (by rw [e];congr 1;exact o6 hij)
 exact this.symm
theorem Reach.symm (hc:∀ x∈S,f x∈S) (hg:∀ x∈S,g (f x)=x) {x y:α} (hx:x∈S) (r:Reach f x y):Reach f y x:=by
 obtain ⟨k,rfl⟩:=r
 obtain ⟨m,hm,e⟩:=period hc hg hx
 refine ⟨k*m-k,?_⟩
 rw [<-itr_add]
 have:k<=k*m:=Nat.le_mul_of_pos_right k hm
 rw [show k*m-k+k=k*m by exact o4 this]
 exact itr_mul f m x e k
noncomputable def walk (f:α->α):Nat->List α->α->Option (List α)
 | 0,_,_=>none
 | n+1,found,x=>if x∈found then some found else walk f n (found++[x]) (f x)
theorem walkS {f:α->α} {n:Nat} {F:List α} {x:α}:walk f (n+1) F x=if x∈F then some F else walk f n (F++[x]) (f x):=rfl
theorem walk_spec (hc:∀ x∈S,f x∈S) (x0:α) (n:Nat):∀ (found:List α) (x:α),found.Nodup->(∀ y∈found,y∈S)->x∈S->(∀ y∈found,f y∈found\/f y=x)->(∀ y∈found,Reach f x0 y)->Reach f x0 x->(x0∈found\/x=x0)->S.length < n+found.length ->
  ∃ F,walk f n found x=some F/\F.Nodup/\(∀ y∈F,y∈S)/\∀ y,y∈F↔Reach f x0 y:=by
 induction n with
 | zero=>
  intro found x h1 h2 h3 h4 h5 h6 h7 h8
  have:=nodup_le h1 h2
  exact (o7 h8 this).elim
 | succ n ih=>
  intro found x h1 h2 h3 h4 h5 h6 h7 h8
  by_cases hx:x∈found
  ·refine ⟨found,by simp [walkS,hx],h1,h2,fun y=>⟨h5 y,fun r=>?_⟩⟩
   have h0:x0∈found:=by rcases h7 with h | rfl<;>assumption
   have hcl:∀ y∈found,f y∈found:=fun y hy=>by rcases h4 y hy with h | h;exact h;rw [h];exact hx
   exact Reach.mem hcl h0 r
  ·have e:walk f (n+1) found x=walk f n (found++[x]) (f x):=by simp [walkS,hx]
   rw [e]
   refine ih (found++[x]) (f x) ?_ ?_ (hc x h3) ?_ ?_ (h6.trans (.step x)) ?_ ?_
   ·rw [List.nodup_append];refine ⟨h1,by simp,?_⟩
    intro a ha b hb;simp at hb;subst hb;rintro rfl;exact hx ha
   ·intro y hy;simp at hy;rcases hy with h | rfl;exact h2 y h;exact h3
   ·intro y hy;simp at hy
    rcases hy with h | rfl
    ·rcases h4 y h with h' | h'
     ·left;simp [h']
     ·left;simp [h']
    ·right;rfl
   ·intro y hy;simp at hy;rcases hy with h | rfl;exact h5 y h;exact h6
   ·left;rcases h7 with h | rfl<;>simp [*]
   ·simp;exact o8 h8
theorem walk_face (hc:∀ x∈S,f x∈S) {x0:α} (h:x0∈S) {n:Nat} (hn:S.length < n):∃ F,walk f n [] x0=some F/\F.Nodup/\(∀ y∈F,y∈S)/\∀ y,y∈F↔Reach f x0 y:=
 walk_spec hc x0 n [] x0 (by simp) (by simp) h (by simp) (by simp) (.refl _) (.inr rfl) (by simpa using hn)
end
end Mine.Internal
end
section
namespace Mine.Internal
abbrev Sd:=Nat×Bool
noncomputable def rnx (L:List Int) (q:Int->Int):Sd->Sd
 | (g,true)=>match L[g]? with
  | none=>(g,false)
  | some v=>if v=0 then (g+1,true) else if q v=1 then (L.idxOf (-v)+1,true) else (L.idxOf (-v),false)
 | (0,false)=>(0,true)
 | (g+1,false)=>match L[g]? with
  | none=>(g+1,false)
  | some v=>if v=0 then (g,false) else if q v=1 then (L.idxOf (-v),false) else (L.idxOf (-v)+1,true)
noncomputable def rpv (L:List Int) (q:Int->Int):Sd->Sd
 | (g,false)=>match L[g]? with
  | none=>(g,true)
  | some v=>if v=0 then (g+1,false) else if q (-v)=1 then (L.idxOf (-v)+1,false) else (L.idxOf (-v),true)
 | (0,true)=>(0,false)
 | (g+1,true)=>match L[g]? with
  | none=>(g+1,true)
  | some v=>if v=0 then (g,true) else if q (-v)=1 then (L.idxOf (-v),true) else (L.idxOf (-v)+1,false)
structure Row (L:List Int) (q:Int->Int):Prop where
 nd:L.Nodup
 neg:∀ v∈L,-v∈L
 q1:∀ v∈L,v≠0->q v=1\/q v=-1
 qn:∀ v∈L,v≠0->q (-v)=- q v
noncomputable def rsd (L:List Int):List Sd:=(List.range (L.length+1)).flatMap fun g=>[(g,true),(g,false)]
theorem mem_rsd {L:List Int} {x:Sd}:x∈rsd L↔x.1 < L.length+1:=by
 obtain ⟨g,b⟩:=x
 unfold rsd
 rw [List.mem_flatMap]
 constructor
 ·rintro ⟨a,h,h2⟩
  rcases List.mem_cons.1 h2 with e | h2
  ·rw [(Prod.mk.inj e).1];exact List.mem_range.1 h
  ·rw [(Prod.mk.inj (List.mem_singleton.1 h2)).1];exact List.mem_range.1 h
 ·intro h
  exact ⟨g,List.mem_range.2 h,by cases b;exact List.mem_cons_of_mem _ List.mem_cons_self;exact List.mem_cons_self⟩
theorem rsd_len {L:List Int}:(rsd L).length=2*(L.length+1):=by
 unfold rsd
 generalize L.length+1=n
 induction n with
 | zero=>rfl
 | succ n ih=>rw [List.range_succ,List.flatMap_append,List.length_append,ih];rfl
section
variable {L:List Int} {q:Int->Int}
theorem rn_t {g:Nat} {v:Int} (h:L[g]?=some v):rnx L q (g,true)=if v=0 then (g+1,true) else if q v=1 then (L.idxOf (-v)+1,true) else (L.idxOf (-v),false):=by
 show (match L[g]? with | none=>_ | some v=>_)=_
 rw [h]
theorem rn_te {g:Nat} (h:L[g]?=none):rnx L q (g,true)=(g,false):=by
 show (match L[g]? with | none=>_ | some v=>_)=_
 rw [h]
theorem rn_f {g:Nat} {v:Int} (h:L[g]?=some v):rnx L q (g+1,false)=if v=0 then (g,false) else if q v=1 then (L.idxOf (-v),false) else (L.idxOf (-v)+1,true):=by
 show (match L[g]? with | none=>_ | some v=>_)=_
 rw [h]
theorem rp_t {g:Nat} {v:Int} (h:L[g]?=some v):rpv L q (g+1,true)=if v=0 then (g,true) else if q (-v)=1 then (L.idxOf (-v),true) else (L.idxOf (-v)+1,false):=by
 show (match L[g]? with | none=>_ | some v=>_)=_
 rw [h]
theorem rp_f {g:Nat} {v:Int} (h:L[g]?=some v):rpv L q (g,false)=if v=0 then (g+1,false) else if q (-v)=1 then (L.idxOf (-v)+1,false) else (L.idxOf (-v),true):=by
 show (match L[g]? with | none=>_ | some v=>_)=_
 rw [h]
theorem rp_fe {g:Nat} (h:L[g]?=none):rpv L q (g,false)=(g,true):=by
 show (match L[g]? with | none=>_ | some v=>_)=_
 rw [h]
theorem at_ix {v:Int} (h:v∈L):L[L.idxOf v]?=some v:=by
 rw [List.getElem?_eq_getElem (List.idxOf_lt_length_of_mem h),List.getElem_idxOf]
theorem idx_is (nd:L.Nodup) {g:Nat} {v:Int} (h:L[g]?=some v):L.idxOf v=g:=by
 obtain ⟨h1,h2⟩:=List.getElem?_eq_some_iff.1 h
 rw [<-h2];exact nd.idxOf_getElem g h1
theorem rnx_mem (o:Row L q):∀ x∈rsd L,rnx L q x∈rsd L:=by
 rintro ⟨g,b⟩ hx
 have hx:=mem_rsd.1 hx
 have hop:∀ {v:Int},v∈L->(L.idxOf (-v)+1,true)∈rsd L/\(L.idxOf (-v),false)∈rsd L:=fun hv=>by
  have:=List.idxOf_lt_length_of_mem (o.neg _ hv)
  exact ⟨mem_rsd.2 (Nat.succ_lt_succ this),mem_rsd.2 (Nat.lt_succ_of_lt this)⟩
 cases b with
 | true=>
  cases h:L[g]? with
  | none=>rw [rn_te h];exact mem_rsd.2 hx
  | some v=>
   have hv:=List.mem_of_getElem? h
   have hg:=(List.getElem?_eq_some_iff.1 h).1
   rw [rn_t h]
   split
   ·exact mem_rsd.2 (Nat.succ_lt_succ hg)
   ·split
    ·exact (hop hv).1
    ·exact (hop hv).2
 | false=>
  cases g with
  | zero=>exact mem_rsd.2 (Nat.succ_pos _)
  | succ g=>
   have hg:g < L.length:=Nat.lt_of_succ_lt_succ hx
   have h:=List.getElem?_eq_getElem hg
   have hv:=List.mem_of_getElem? h
   rw [rn_f h]
   split
   ·exact mem_rsd.2 (Nat.lt_succ_of_lt hg)
   ·split
    ·exact (hop hv).2
    ·exact (hop hv).1
theorem rpv_rnx (o:Row L q):∀ x∈rsd L,rpv L q (rnx L q x)=x:=by
 rintro ⟨g,b⟩ hx
 have hx:=mem_rsd.1 hx
 have nz:∀ {v:Int},v≠0->-v≠0:=fun h e=>h (Int.neg_eq_zero.1 e)
 cases b with
 | true=>
  cases h:L[g]? with
  | none=>rw [rn_te h,rp_fe h]
  | some v=>
   have hv:=List.mem_of_getElem? h
   have ha:=at_ix (o.neg v hv)
   have hi:=idx_is o.nd h
   rw [rn_t h]
   by_cases h0:v=0
   ·rw [if_pos h0,rp_t h,if_pos h0]
   ·rw [if_neg h0]
    rcases o.q1 v hv h0 with e | e
    ·rw [if_pos e,rp_t ha,if_neg (nz h0),Int.neg_neg,if_pos e,hi]
    ·rw [if_neg (by rw [e];decide),rp_f ha,if_neg (nz h0),Int.neg_neg,if_neg (by rw [e];decide),hi]
 | false=>
  cases g with
  | zero=>rfl
  | succ g=>
   have hg:g < L.length:=Nat.lt_of_succ_lt_succ hx
   have h:=List.getElem?_eq_getElem hg
   generalize L[g]=v at h
   have hv:=List.mem_of_getElem? h
   have ha:=at_ix (o.neg v hv)
   have hi:=idx_is o.nd h
   rw [rn_f h]
   by_cases h0:v=0
   ·rw [if_pos h0,rp_f h,if_pos h0]
   ·rw [if_neg h0]
    rcases o.q1 v hv h0 with e | e
    ·rw [if_pos e,rp_f ha,if_neg (nz h0),Int.neg_neg,if_pos e,hi]
    ·rw [if_neg (by rw [e];decide),rp_t ha,if_neg (nz h0),Int.neg_neg,if_neg (by rw [e];decide),hi]
theorem rnx_map {f:Int->Int} {q':Int->Int} (o:Row L q) (f0:∀ v∈L,f v=0↔v=0) (fn:∀ v∈L,f (-v)=-f v) (fi:∀ u∈L,∀ v∈L,f u=f v->u=v) (fq:∀ v∈L,v≠0->q' (f v)=q v):rnx (L.map f) q'=rnx L q:=by
 have ix:∀ {v:Int},v∈L->(L.map f).idxOf (-f v)=L.idxOf (-v):=fun {v} hv=>by
  rw [<-fn v hv]
  have h1:=at_ix (o.neg v hv)
  have h2:(L.map f)[L.idxOf (-v)]?=some (f (-v)):=by rw [List.getElem?_map,h1];rfl
  exact idx_is (List.pairwise_map.2 (o.nd.imp_of_mem fun {a b} ha hb hab e=>hab (fi a ha b hb e))) h2
 have iff0:∀ {v:Int},v∈L->(f v=0)=(v=0):=fun hv=>propext (f0 _ hv)
 funext x
 obtain ⟨g,b⟩:=x
 have key:∀ g:Nat,((L.map f)[g]?=none/\L[g]?=none)\/∃ v,v∈L/\L[g]?=some v/\(L.map f)[g]?=some (f v):=fun g=>by
  rw [List.getElem?_map]
  cases h:L[g]? with
  | none=>exact .inl ⟨rfl,rfl⟩
  | some v=>exact .inr ⟨v,List.mem_of_getElem? h,rfl,rfl⟩
 cases b with
 | true=>
  rcases key g with ⟨h1,h2⟩ | ⟨v,hv,h1,h2⟩
  ·rw [rn_te h1,rn_te h2]
  ·rw [rn_t h1,rn_t h2,ix hv];simp only [iff0 hv]
   by_cases h0:v=0
   ·rw [if_pos h0,if_pos h0]
   ·rw [fq v hv h0]
 | false=>
  cases g with
  | zero=>rfl
  | succ g=>
   rcases key g with ⟨h1,h2⟩ | ⟨v,hv,h1,h2⟩
   ·show (match (L.map f)[g]? with | none=>_ | some v=>_)=(match L[g]? with | none=>_ | some v=>_)
    rw [h1,h2]
   ·rw [rn_f h1,rn_f h2,ix hv];simp only [iff0 hv]
    by_cases h0:v=0
    ·rw [if_pos h0,if_pos h0]
    ·rw [fq v hv h0]
noncomputable def orR (L:List Int) (q:Int->Int) (x:Sd):List Sd:=(walk (rnx L q) 1000000 [] x).getD []
theorem orR_is (o:Row L q) (hm:L.length<=1000) {x:Sd} (hx:x∈rsd L):walk (rnx L q) 1000000 [] x=some (orR L q x)/\(orR L q x).Nodup/\(∀ y∈orR L q x,y∈rsd L)/\∀ y,y∈orR L q x↔Reach (rnx L q) x y:=by
 obtain ⟨F,h1,h2,h3,h4⟩:=walk_face (rnx_mem o) hx (n:=1000000) (by rw [rsd_len];exact xo1 hm)
 have:orR L q x=F:=by unfold orR;rw [h1];rfl
 rw [this];exact ⟨h1,h2,h3,h4⟩
theorem rch_symm (o:Row L q) {x y:Sd} (hx:x∈rsd L) (r:Reach (rnx L q) x y):Reach (rnx L q) y x:=r.symm (rnx_mem o) (rpv_rnx o) hx
end
end Mine.Internal
end
section
namespace Mine.Internal
noncomputable def Fc (L:List Int) (q:Int->Int) (c:Nat):Prop:=∃ rs:List Sd,rs.length=c/\(∀ r∈rs,r∈rsd L)/\rs.Pairwise (fun a b=>¬ Reach (rnx L q) a b)/\∀ x∈rsd L,∃ r∈rs,Reach (rnx L q) r x
section
variable {L L':List Int} {q q':Int->Int} {c c':Nat}
theorem fc_ex (o:Row L q):∃ c,Fc L q c:=by
 have key:∀ xs:List Sd,(∀ x∈xs,x∈rsd L)->∃ rs:List Sd,(∀ r∈rs,r∈rsd L)/\rs.Pairwise (fun a b=>¬ Reach (rnx L q) a b)/\∀ x∈xs,∃ r∈rs,Reach (rnx L q) r x:=by
  intro xs
  induction xs with
  | nil=>intro _;exact ⟨[],fun _ h=>absurd h List.not_mem_nil,.nil,fun _ h=>absurd h List.not_mem_nil⟩
  | cons x xs ih=>
   intro h
   obtain ⟨rs,h1,h2,h3⟩:=ih fun y hy=>h y (List.mem_cons_of_mem _ hy)
   have hx:=h x List.mem_cons_self
   by_cases hr:∃ r∈rs,Reach (rnx L q) r x
   ·exact ⟨rs,h1,h2,fun y hy=>(List.mem_cons.1 hy).elim (fun e=>e ▸ hr) (h3 y)⟩
   ·refine ⟨x::rs,fun r hr=>(List.mem_cons.1 hr).elim (fun e=>e ▸ hx) (h1 r),List.pairwise_cons.2 ⟨fun b hb r=>hr ⟨b,hb,rch_symm o hx r⟩,h2⟩,fun y hy=>(List.mem_cons.1 hy).elim (fun e=>⟨x,List.mem_cons_self,by rw [e];exact .refl x⟩) fun hy=>?_⟩
    obtain ⟨r,hr,e⟩:=h3 y hy;exact ⟨r,List.mem_cons_of_mem _ hr,e⟩
 obtain ⟨rs,h1,h2,h3⟩:=key (rsd L) fun _ h=>h
 exact ⟨rs.length,rs,rfl,h1,h2,h3⟩
theorem inv_reach {lab:Sd->Nat} (o:Row L q) (inv:∀ x∈rsd L,lab (rnx L q x)=lab x) {x y:Sd} (hx:x∈rsd L) (r:Reach (rnx L q) x y):lab y=lab x:=by
 obtain ⟨k,rfl⟩:=r
 induction k with
 | zero=>rfl
 | succ k ih=>exact (inv _ (itr_mem (rnx_mem o) hx k)).trans ih
theorem fc_le (o:Row L q) (h:Fc L q c) {lab:Sd->Nat} (inv:∀ x∈rsd L,lab (rnx L q x)=lab x) {D:List Nat} (nd:D.Nodup) (hD:∀ v∈D,∃ x∈rsd L,lab x=v):D.length<=c:=by
 obtain ⟨rs,e,h1,_,h3⟩:=h
 have:=nodup_le (m:=rs.map lab) nd fun v hv=>by
  obtain ⟨x,hx,e⟩:=hD v hv
  obtain ⟨r,hr,hr2⟩:=h3 x hx
  exact List.mem_map.2 ⟨r,hr,by rw [<-e];exact (inv_reach o inv (h1 r hr) hr2).symm⟩
 rwa [List.length_map,e] at this
open Classical in
theorem fc_lab (o:Row L q) (h:Fc L q c):∃ lab:Sd->Nat,(∀ x∈rsd L,lab (rnx L q x)=lab x)/\∀ k < c,∃ x∈rsd L,lab x=k:=by
 obtain ⟨rs,e,h1,h2,h3⟩:=h
 refine ⟨fun x=>rs.findIdx fun r=>decide (Reach (rnx L q) r x),fun x hx=>?_,fun k hk=>?_⟩
 ·show rs.findIdx _=rs.findIdx _
  congr 1;funext r
  refine decide_eq_decide.2 ⟨fun h=>h.trans (rch_symm o hx (.step x)),fun h=>h.trans (.step x)⟩
 ·subst e
  refine ⟨rs[k],h1 _ (List.getElem_mem hk),(List.findIdx_eq hk).2 ⟨decide_eq_true (.refl _),fun j hj=>decide_eq_false ?_⟩⟩
  exact List.pairwise_iff_getElem.1 h2 j k _ hk hj
theorem fc_merge (o:Row L q) (o':Row L' q') (h:Fc L q c) (h':Fc L' q' c') (a b:Sd) (ha:a∈rsd L) (ψ:Sd->Sd)
  (key:∀ lab:Sd->Nat,(∀ x∈rsd L,lab (rnx L q x)=lab x)->lab a=lab b->(∀ x∈rsd L',lab (ψ (rnx L' q' x))=lab (ψ x))/\∀ y∈rsd L,∃ x∈rsd L',lab (ψ x)=lab y):c<=c'+1/\(Reach (rnx L q) a b->c<=c'):=by
 obtain ⟨lab,h1,h2⟩:=fc_lab o h
 constructor
 ·have k:=key (fun x=>if lab x=lab b then lab a else lab x) (fun x hx=>by show (if lab (rnx L q x)=lab b then _ else _)=_;rw [h1 x hx]) (by show (if lab a=lab b then _ else _)=(if lab b=lab b then _ else _);rw [if_pos rfl];split<;>rfl)
  have nd:((List.range c).erase (lab b)).Nodup:=List.nodup_range.erase _
  have:=fc_le o' h' (lab:=fun x=>if lab (ψ x)=lab b then lab a else lab (ψ x)) k.1 nd fun v hv=>by
   obtain ⟨hv1,hv2⟩:=(List.Nodup.mem_erase_iff List.nodup_range).1 hv
   obtain ⟨y,hy,e⟩:=h2 v (List.mem_range.1 hv2)
   obtain ⟨x,hx,e2⟩:=k.2 y hy
   exact ⟨x,hx,by rw [e2,if_neg (by rw [e];exact hv1),e]⟩
  rw [List.length_erase,List.length_range] at this
  split at this<;>(first | exact xp2 this | exact xp3 this)
 ·intro r
  have k:=key lab h1 (inv_reach o h1 ha r).symm
  have:=fc_le o' h' (lab:=fun x=>lab (ψ x)) k.1 (D:=List.range c) List.nodup_range fun v hv=>by
   obtain ⟨y,hy,e⟩:=h2 v (List.mem_range.1 hv)
   obtain ⟨x,hx,e2⟩:=k.2 y hy
   exact ⟨x,hx,e2.trans e⟩
  rwa [List.length_range] at this
theorem emb0 (o:Row L q) (o':Row L' q) {e:Nat->Nat} (he:∀ i w,L'[i]?=some w->L[e i]?=some w) {lab:Sd->Nat} (inv:∀ x∈rsd L,lab (rnx L q x)=lab x) (h1:∀ i,i < L'.length->∀ b,lab (e i+1,b)=lab (e (i+1),b)) {x:Sd} (hx:x∈rsd L') (n1:x≠(L'.length,true)) (n2:x≠(0,false)):
  lab (e (rnx L' q x).1,(rnx L' q x).2)=lab (e x.1,x.2):=by
 obtain ⟨g,b⟩:=x
 have hx:=mem_rsd.1 hx
 have ix:∀ {w:Int},w∈L'->L.idxOf (-w)=e (L'.idxOf (-w))/\L'.idxOf (-w) < L'.length:=fun hw=>⟨idx_is o.nd (he _ _ (at_ix (o'.neg _ hw))),List.idxOf_lt_length_of_mem (o'.neg _ hw)⟩
 have le:∀ {i:Nat} {w:Int},L[i]?=some w->i < L.length:=fun h=>(List.getElem?_eq_some_iff.1 h).1
 cases b with
 | true=>
  have hg:g < L'.length:=Nat.lt_of_le_of_ne (Nat.le_of_lt_succ hx) fun e=>n1 (by rw [e])
  have h:=List.getElem?_eq_getElem hg
  generalize L'[g]=w at h
  have hw:=List.mem_of_getElem? h
  have h':=he _ _ h
  obtain ⟨i1,i2⟩:=ix hw
  rw [<-inv (e g,true) (mem_rsd.2 (Nat.lt_succ_of_lt (le h'))),rn_t h,rn_t h',i1]
  split
  ·exact (h1 g hg true).symm
  ·split
   ·exact (h1 _ i2 true).symm
   ·rfl
 | false=>
  cases g with
  | zero=>exact absurd rfl n2
  | succ g=>
   have hg:g < L'.length:=Nat.lt_of_succ_lt_succ hx
   have h:=List.getElem?_eq_getElem hg
   generalize L'[g]=w at h
   have hw:=List.mem_of_getElem? h
   have h':=he _ _ h
   obtain ⟨i1,i2⟩:=ix hw
   show _=lab (e (g+1),false)
   rw [<-h1 g hg,<-inv (e g+1,false) (mem_rsd.2 (Nat.succ_lt_succ (le h'))),rn_f h,rn_f h',i1]
   split
   ·rfl
   ·split
    ·rfl
    ·exact (h1 _ i2 true).symm
theorem emb (o:Row L q) (o':Row L' q) {e:Nat->Nat} (he:∀ i w,L'[i]?=some w->L[e i]?=some w) {lab:Sd->Nat} (inv:∀ x∈rsd L,lab (rnx L q x)=lab x) (h1:∀ i,i < L'.length->∀ b,lab (e i+1,b)=lab (e (i+1),b)) (h2:lab (e L'.length,true)=lab (e L'.length,false)) (h3:lab (e 0,false)=lab (e 0,true)):
  ∀ x∈rsd L',lab (e (rnx L' q x).1,(rnx L' q x).2)=lab (e x.1,x.2):=by
 intro x hx
 by_cases n1:x=(L'.length,true)
 ·subst n1;rw [rn_te (List.getElem?_eq_none (Nat.le_refl _))];exact h2.symm
 ·by_cases n2:x=(0,false)
  ·subst n2;exact h3.symm
  ·exact emb0 o o' he inv h1 hx n1 n2
end
end Mine.Internal
end
section
namespace Mine.Internal
section
variable {q:Int->Int} {c c':Nat}
noncomputable def gp (p g:Nat):Nat:=if g < p then g else g+1
theorem gp_lt {p g:Nat} (h:g < p):gp p g=g:=if_pos h
theorem gp_ge {p g:Nat} (h:¬ g < p):gp p g=g+1:=if_neg h
theorem ins_at {A B E:List Int} {z:Int} (i:Nat) (w:Int) (h:(A++B)[i]?=some w):(A++z::B++E)[gp A.length i]?=some w:=by
 have hl:=(List.getElem?_eq_some_iff.1 h).1
 rw [List.length_append] at hl
 by_cases hp:i < A.length
 ·rw [gp_lt hp,List.append_assoc,List.getElem?_append_left hp]
  rwa [List.getElem?_append_left hp] at h
 ·rw [gp_ge hp,List.append_assoc,List.getElem?_append_right (by exact xp4 hp),show i+1-A.length=(i-A.length)+1 by exact xp9 hp,List.cons_append,List.getElem?_cons_succ,List.getElem?_append_left (by exact xp12 hl hp)]
  rwa [List.getElem?_append_right (by exact xp14 hp)] at h
theorem ins_emb {A B E:List Int} {z:Int} (o:Row (A++z::B++E) q) (o':Row (A++B) q) {lab:Sd->Nat} (inv:∀ x∈rsd (A++z::B++E),lab (rnx (A++z::B++E) q x)=lab x)
  (h1:∀ b,lab (A.length,b)=lab (A.length+1,b)) (h2:lab ((A++B).length+1,true)=lab ((A++B).length+1,false)) (h3:∀ g,(A++B).length+1 < g->(g<=(A++z::B++E).length)->∀ b,∃ y:Sd,y.1<=(A++B).length+1/\lab y=lab (g,b)):
  (∀ x∈rsd (A++B),lab (gp A.length (rnx (A++B) q x).1,(rnx (A++B) q x).2)=lab (gp A.length x.1,x.2))/\∀ y∈rsd (A++z::B++E),∃ x∈rsd (A++B),lab (gp A.length x.1,x.2)=lab y:=by
 have hl:(A++B).length=A.length+B.length:=List.length_append
 constructor
 ·refine emb o o' ins_at inv (fun i hi b=>?_) ?_ ?_
  ·by_cases hp:i+1 < A.length
   ·rw [gp_lt hp,gp_lt (by exact xp5 hp)]
   ·by_cases hq:i+1=A.length
    ·rw [gp_lt (by exact xp8 hq),gp_ge (by exact xp13 hp),hq];exact h1 b
    ·rw [gp_ge (by exact xp21 hp hq),gp_ge (by exact xp13 hp)]
  ·rw [gp_ge (by exact xp25 hl)];exact h2
  ·have h0:=inv (0,false) (mem_rsd.2 (Nat.succ_pos _))
   by_cases hp:0 < A.length
   ·rw [gp_lt hp];exact h0.symm
   ·rw [gp_ge hp]
    have hA:A.length=0:=by exact xp28 hp
    rw [hA] at h1
    exact (h1 false).symm.trans (h0.symm.trans (h1 true))
 ·have low:∀ y:Sd,y.1<=(A++B).length+1->∃ x∈rsd (A++B),lab (gp A.length x.1,x.2)=lab y:=by
   rintro ⟨g,b⟩ hg
   have hg:g<=(A++B).length+1:=hg
   by_cases hp:g < A.length
   ·exact ⟨(g,b),mem_rsd.2 (by show g < _;exact xp35 hl hp),by show lab (gp A.length g,b)=_;rw [gp_lt hp]⟩
   ·by_cases hq:g=A.length
    ·exact ⟨(g,b),mem_rsd.2 (by show g < _;exact xp40 hl hq),by show lab (gp A.length g,b)=_;rw [gp_ge hp,hq];exact (h1 b).symm⟩
    ·refine ⟨(g-1,b),mem_rsd.2 (by show g-1 < _;exact xp46 hg),?_⟩
     show lab (gp A.length (g-1),b)=_
     rw [gp_ge (by exact xp48 hp hq),show g-1+1=g by exact xp53 hp hq]
  rintro ⟨g,b⟩ hy
  by_cases hg:g<=(A++B).length+1
  ·exact low (g,b) hg
  ·obtain ⟨y,h4,h5⟩:=h3 g (by exact xp54 hg) (Nat.le_of_lt_succ (mem_rsd.1 hy)) b
   obtain ⟨x,hx,e⟩:=low y h4
   exact ⟨x,hx,e.trans h5⟩
theorem Row.less {A B E:List Int} {z:Int} (o:Row (A++z::B++E) q) (hE:∀ v∈E,-v=z) (hz:-z∈z::E):Row (A++B) q:=by
 have sub:∀ v∈A++B,v∈A++z::B++E:=fun v hv=>(List.mem_append.1 hv).elim (fun h=>List.mem_append_left _ (List.mem_append_left _ h)) fun h=>List.mem_append_left _ (List.mem_append_right _ (List.mem_cons_of_mem _ h))
 have hn:=List.nodup_append.1 o.nd
 have hn1:=List.nodup_append.1 hn.1
 have hn2:=List.nodup_cons.1 hn1.2.1
 have nz:∀ v∈A++B,v≠z:=fun v hv e=>(List.mem_append.1 hv).elim (fun h=>hn1.2.2 v h z List.mem_cons_self e) fun h=>hn2.1 (e ▸ h)
 have nE:∀ v∈A++B,v∉E:=fun v hv h=>(List.mem_append.1 hv).elim (fun h'=>hn.2.2 v (List.mem_append_left _ h') v h rfl) fun h'=>hn.2.2 v (List.mem_append_right _ (List.mem_cons_of_mem _ h')) v h rfl
 refine ⟨List.nodup_append.2 ⟨hn1.1,hn2.2,fun a ha b hb=>hn1.2.2 a ha b (List.mem_cons_of_mem _ hb)⟩,fun v hv=>?_,fun v hv=>o.q1 v (sub v hv),fun v hv=>o.qn v (sub v hv)⟩
 have h:=o.neg v (sub v hv)
 have hnz:-v≠z:=fun e=>by
  have:v=-z:=by exact xp10 e
  rcases List.mem_cons.1 hz with h' | h'
  ·exact nz v hv (this.trans h')
  ·exact nE v hv (this ▸ h')
 have hnE:-v∉E:=fun h'=>nz v hv (by have:=hE _ h';exact xp17 this)
 rcases List.mem_append.1 h with h | h
 ·rcases List.mem_append.1 h with h | h
  ·exact List.mem_append_left _ h
  ·exact List.mem_append_right _ ((List.mem_cons.1 h).resolve_left hnz)
 ·exact absurd h hnE
theorem back_le {A B:List Int} {v:Int} (hv:v≠0) (o:Row (A++-v::B++[v]) q) (o':Row (A++B) q) (h:Fc (A++-v::B++[v]) q c) (h':Fc (A++B) q c'):c<=c'+1:=by
 have hl:(A++B).length=A.length+B.length:=List.length_append
 have hL:(A++-v::B++[v]).length=A.length+B.length+2:=by simp;exact xp6
 have a1:(A++-v::B++[v])[A.length]?=some (-v):=by rw [List.append_assoc,List.getElem?_append_right (Nat.le_refl _),Nat.sub_self];rfl
 have a2:(A++-v::B++[v])[A.length+B.length+1]?=some v:=by
  rw [List.getElem?_append_right (by simp;exact xp15),show A.length+B.length+1-(A++-v::B).length=0 by simp;exact xp27];rfl
 have a3:(A++-v::B++[v])[A.length+B.length+2]?=none:=List.getElem?_eq_none (by exact xp32 hL)
 have i1:=idx_is o.nd a1
 have i2:=idx_is o.nd a2
 have hnv:-v≠0:=fun e=>hv (Int.neg_eq_zero.1 e)
 have qn:=o.qn v (List.mem_of_getElem? a2) hv
 have nn:- -v=v:=Int.neg_neg v
 have m:∀ {g:Nat} {b:Bool},g<=A.length+B.length+2->(g,b)∈rsd (A++-v::B++[v]):=fun h=>mem_rsd.2 (by show _ < _;exact xp42 hL h)
 rcases o.q1 v (List.mem_of_getElem? a2) hv with e | e
 ·rw [e] at qn
  refine (fc_merge o o' h h' (A.length,true) (A.length+1,true) (m (by exact xp45)) (fun x=>(gp A.length x.1,x.2)) fun lab inv hab=>?_).1
  have t1:=inv (A.length+1,false) (m (by exact xp49))
  have t2:=inv (A.length+B.length+2,true) (m (by exact xp51))
  have t3:=inv (A.length+B.length+2,false) (m (by exact xp51))
  have t4:=inv (A.length+B.length+1,true) (m (by exact xp55))
  have t5:=inv (A.length,true) (m (by exact xp45))
  rw [rn_f a1,if_neg hnv,qn,if_neg (by decide),nn,i2] at t1
  rw [rn_te a3] at t2
  rw [rn_f a2,if_neg hv,e,if_pos rfl,i1] at t3
  rw [rn_t a2,if_neg hv,e,if_pos rfl,i1] at t4
  rw [rn_t a1,if_neg hnv,qn,if_neg (by decide),nn,i2] at t5
  have u:lab (A.length,false)=lab (A.length+1,false):=t3.trans (t2.trans t1)
  refine ins_emb o o' inv (fun b=>by cases b;exact u;exact hab) ?_ fun g h1 h2 b=>?_
  ·rw [hl];exact t4.symm.trans (hab.symm.trans t5.symm)
  ·have:g=A.length+B.length+2:=by exact xp58 hl hL h1 h2
   subst this
   refine ⟨(A.length,false),by show A.length<=_;exact xp60 hl,?_⟩
   cases b;exact t3;exact t3.trans t2
 ·rw [e] at qn
  have qn:q (-v)=1:=qn
  refine (fc_merge o o' h h' (A.length,false) (A.length+1,false) (m (by exact xp45)) (fun x=>(gp A.length x.1,x.2)) fun lab inv hab=>?_).1
  have t1:=inv (A.length,true) (m (by exact xp45))
  have t2:=inv (A.length+B.length+2,true) (m (by exact xp51))
  have t3:=inv (A.length+B.length+2,false) (m (by exact xp51))
  have t4:=inv (A.length+B.length+1,true) (m (by exact xp55))
  have t5:=inv (A.length+1,false) (m (by exact xp49))
  rw [rn_t a1,if_neg hnv,qn,if_pos rfl,nn,i2] at t1
  rw [rn_te a3] at t2
  rw [rn_f a2,if_neg hv,e,if_neg (by decide),i1] at t3
  rw [rn_t a2,if_neg hv,e,if_neg (by decide),i1] at t4
  rw [rn_f a1,if_neg hnv,qn,if_pos rfl,nn,i2] at t5
  have u:lab (A.length,true)=lab (A.length+1,true):=t1.symm.trans (t2.symm.trans t3.symm)
  refine ins_emb o o' inv (fun b=>by cases b;exact hab;exact u) ?_ fun g h1 h2 b=>?_
  ·rw [hl];exact t4.symm.trans (hab.trans t5.symm)
  ·have:g=A.length+B.length+2:=by exact xp58 hl hL h1 h2
   subst this
   refine ⟨(A.length+1,true),by show A.length+1<=_;exact xp68 hl,?_⟩
   cases b;exact t3;exact t3.trans t2
theorem mark_le {A:List Int} (o:Row (A++[0]) q) (o':Row A q) (h:Fc (A++[0]) q c) (h':Fc A q c'):c<=c':=by
 have e1:A++[0]=A++(0:Int)::[]++[]:=by simp
 have e2:A=A++[]:=by simp
 have a1:(A++[0])[A.length]?=some 0:=by simp
 have a2:(A++[0])[A.length+1]?=none:=by simp
 have m:∀ {g:Nat} {b:Bool},g<=A.length+1->(g,b)∈rsd (A++[0]):=fun h=>mem_rsd.2 (by show _ < _;simp;exact xp11 h)
 have key:∀ lab:Sd->Nat,(∀ x∈rsd (A++[0]),lab (rnx (A++[0]) q x)=lab x)->(∀ x∈rsd A,lab (gp A.length (rnx A q x).1,(rnx A q x).2)=lab (gp A.length x.1,x.2))/\∀ y∈rsd (A++[0]),∃ x∈rsd A,lab (gp A.length x.1,x.2)=lab y:=by
  intro lab inv
  have t1:=inv (A.length,true) (m (by exact xp16))
  have t2:=inv (A.length+1,false) (m (by exact xp20))
  have t3:=inv (A.length+1,true) (m (by exact xp20))
  rw [rn_t a1,if_pos rfl] at t1
  rw [rn_f a1,if_pos rfl] at t2
  rw [rn_te a2] at t3
  have k:=ins_emb (A:=A) (B:=[]) (E:=[]) (z:=0) (q:=q) (lab:=lab) (by rw [<-e1];exact o) (by rw [<-e2];exact o') (by rw [<-e1];exact inv) (fun b=>by cases b;exact t2;exact t1.symm) (by rw [<-e2];exact t3.symm) (fun g h1 h2 b=>by simp at h1 h2;exact (xp31 h1 h2).elim)
  rw [<-e1,<-e2] at k;exact k
 exact (fc_merge o o' h h' (A.length,true) (A.length,true) (m (by exact xp16)) (fun x=>(gp A.length x.1,x.2)) fun lab inv _=>key lab inv).2 (.refl _)
theorem genus:∀ (n:Nat) {L:List Int} {c:Nat},L.length<=n->Row L q->Fc L q c->2*c<=L.length+(if (0:Int)∈L then 1 else 2):=by
 intro n
 induction n with
 | zero=>
  intro L c hn o h
  have:L=[]:=List.eq_nil_of_length_eq_zero (by exact xp7 hn)
  subst this
  obtain ⟨rs,e,h1,h2,h3⟩:=h
  have all:∀ a b:Sd,a∈rsd []->b∈rsd []->Reach (rnx [] q) a b:=by
   have s1:Reach (rnx [] q) (0,true) (0,false):=⟨1,rfl⟩
   have s2:Reach (rnx [] q) (0,false) (0,true):=⟨1,rfl⟩
   rintro ⟨g,b⟩ ⟨g',b'⟩ ha hb
   have hg:g=0:=Nat.lt_one_iff.1 (mem_rsd.1 ha)
   have hg':g'=0:=Nat.lt_one_iff.1 (mem_rsd.1 hb)
   subst hg;subst hg'
   cases b<;>cases b'<;>first | exact .refl _ | exact s1 | exact s2
  rcases rs with _ | ⟨a,_ | ⟨b,rs⟩⟩
  ·subst e;simp
  ·subst e;simp
  ·exact absurd (all a b (h1 a List.mem_cons_self) (h1 b (List.mem_cons_of_mem _ List.mem_cons_self))) ((List.pairwise_cons.1 h2).1 b List.mem_cons_self)
 | succ n ih=>
  intro L c hn o h
  rcases L.eq_nil_or_concat with e | ⟨A,v,e⟩
  ·subst e;exact ih (Nat.zero_le _) o h
  ·rw [List.concat_eq_append] at e
   subst e
   rw [List.length_append] at hn
   by_cases hv:v=0
   ·subst hv
    have o':Row A q:=by
     have:=Row.less (A:=A) (B:=[]) (E:=[]) (z:=0) (q:=q) (by simpa using o) (fun _ h=>absurd h List.not_mem_nil) List.mem_cons_self
     simpa using this
    obtain ⟨c',h'⟩:=fc_ex o'
    have h1:=mark_le o o' h h'
    have h2:=ih (Nat.le_of_succ_le_succ hn) o' h'
    have h3:(0:Int)∉A:=fun h=>(List.nodup_append.1 o.nd).2.2 0 h 0 List.mem_cons_self rfl
    rw [if_neg h3] at h2
    rw [if_pos (List.mem_append_right _ List.mem_cons_self),List.length_append]
    have:([0]:List Int).length=1:=rfl
    exact xp24 h1 h2 this
   ·have hm:-v∈A:=by
     have:=o.neg v (List.mem_append_right _ List.mem_cons_self)
     rcases List.mem_append.1 this with h | h
     ·exact h
     ·have:=List.mem_singleton.1 h;exact (xp26 hv this).elim
    obtain ⟨A,B,rfl⟩:=List.append_of_mem hm
    have o':Row (A++B) q:=o.less (fun w hw=>by rw [List.mem_singleton.1 hw]) (by rw [Int.neg_neg];exact List.mem_cons_of_mem _ List.mem_cons_self)
    obtain ⟨c',h'⟩:=fc_ex o'
    have h1:=back_le hv o o' h h'
    have hl:(A++-v::B).length=(A++B).length+1:=by simp;exact xp18
    have h1':([v]:List Int).length=1:=rfl
    have h2:=ih (by exact xp36 hn hl) o' h'
    have h3:((0:Int)∈A++-v::B++[v])↔(0:Int)∈A++B:=by
     simp only [List.mem_append,List.mem_cons,List.not_mem_nil,or_false]
     have:(0:Int)≠-v:=by exact xp39 hv
     have:(0:Int)≠v:=by exact xp43 hv
     simp [*]
    rw [List.length_append]
    simp only [h3]
    generalize (if (0:Int)∈A++B then 1 else 2)=k at h2 ⊢
    exact xp47 h1 hl h1' h2
theorem ends {Y:List Int} {u:Int} (hu:u≠0) (o:Row (-u::Y++[u]) q) {lab:Sd->Nat} (inv:∀ x∈rsd (-u::Y++[u]),lab (rnx (-u::Y++[u]) q x)=lab x):(∀ b,lab (Y.length+1,b)=lab (1,b))/\∀ g b,g=0\/g=Y.length+2->∃ b',lab (1,b')=lab (g,b):=by
 have a1:(-u::Y++[u])[0]?=some (-u):=rfl
 have a2:(-u::Y++[u])[Y.length+1]?=some u:=by simp
 have a3:(-u::Y++[u])[Y.length+2]?=none:=List.getElem?_eq_none (by simp)
 have i1:=idx_is o.nd a1
 have i2:=idx_is o.nd a2
 have hnu:-u≠0:=fun e=>hu (Int.neg_eq_zero.1 e)
 have qn:=o.qn u (List.mem_of_getElem? a2) hu
 have nn:- -u=u:=Int.neg_neg u
 have m:∀ {g:Nat} {b:Bool},g<=Y.length+2->(g,b)∈rsd (-u::Y++[u]):=fun h=>mem_rsd.2 (by show _ < _;simp;exact xp19 h)
 have t0:=inv (0,false) (m (by exact xp23))
 have t1:=inv (0,true) (m (by exact xp23))
 have t2:=inv (1,false) (m (by exact xp29))
 have t3:=inv (Y.length+1,true) (m (by exact xp34))
 have t4:=inv (Y.length+2,false) (m (by exact xp38))
 have t5:=inv (Y.length+2,true) (m (by exact xp38))
 have t0:lab (0,true)=lab (0,false):=t0
 rw [rn_t a1,if_neg hnu,nn,i2,qn] at t1
 rw [rn_f a1,if_neg hnu,nn,i2,qn] at t2
 rw [rn_t a2,if_neg hu,i1] at t3
 rw [rn_f a2,if_neg hu,i1] at t4
 rw [rn_te a3] at t5
 rcases o.q1 u (List.mem_of_getElem? a2) hu with e | e
 ·rw [e] at t1 t2 t3 t4
  rw [if_neg (by decide)] at t1 t2
  rw [if_pos rfl] at t3 t4
  refine ⟨fun b=>?_,fun g b hg=>?_⟩
  ·cases b
   ·exact t1.trans (t0.trans (t4.trans (t5.trans t2)))
   ·exact t3.symm
  ·refine ⟨false,?_⟩
   rcases hg with rfl | rfl
   ·cases b
    ·exact (t2.symm.trans (t5.symm.trans t4.symm))
    ·exact (t2.symm.trans (t5.symm.trans (t4.symm.trans t0.symm)))
   ·cases b
    ·exact t2.symm.trans t5.symm
    ·exact t2.symm
 ·rw [e] at t1 t2 t3 t4
  rw [if_pos (by decide)] at t1 t2
  rw [if_neg (by decide)] at t3 t4
  refine ⟨fun b=>?_,fun g b hg=>?_⟩
  ·cases b
   ·exact t2
   ·exact t3.symm.trans (t0.symm.trans (t1.symm.trans (t5.symm.trans t4.symm)))
  ·refine ⟨true,?_⟩
   rcases hg with rfl | rfl
   ·cases b
    ·exact t4.trans (t5.trans (t1.trans t0))
    ·exact t4.trans (t5.trans t1)
   ·cases b
    ·exact t4
    ·exact t4.trans t5
theorem cut_le {A B:List Int} {u:Int} (hu:u≠0) (o:Row (-u::(A++B)++[u]) q) (o':Row (B++A) q) (h:Fc (-u::(A++B)++[u]) q c) (h':Fc (B++A) q c'):c<=c'+1/\(Reach (rnx (-u::(A++B)++[u]) q) (A.length+1,true) (A.length+1,false)->c<=c'):=by
 have hl:(A++B).length=A.length+B.length:=List.length_append
 have hl':(B++A).length=B.length+A.length:=List.length_append
 have hL:(-u::(A++B)++[u]).length=A.length+B.length+2:=by simp;exact xp18
 refine fc_merge o o' h h' (A.length+1,true) (A.length+1,false) (mem_rsd.2 (by show _ < _;rw [hL];exact Nat.succ_lt_succ (Nat.lt_succ_of_le (Nat.le_succ_of_le (Nat.le_add_right _ _))))) (fun x=>(if x.1 < B.length then A.length+x.1+1 else x.1-B.length+1,x.2)) fun lab inv hab=>?_
 obtain ⟨t1,t2⟩:=ends hu o inv
 rw [hl] at t1 t2
 constructor
 ·refine emb o o' (e:=fun g=>if g < B.length then A.length+g+1 else g-B.length+1) (fun i w hi=>?_) inv (fun i hi b=>?_) ?_ ?_
  ·have hi':=(List.getElem?_eq_some_iff.1 hi).1
   show (-u::(A++B)++[u])[if i < B.length then A.length+i+1 else i-B.length+1]?=_
   by_cases hp:i < B.length
   ·rw [if_pos hp,List.cons_append,List.getElem?_cons_succ,List.getElem?_append_left (by exact xp30 hl hp),List.getElem?_append_right (by exact xp33),Nat.add_sub_cancel_left]
    rwa [List.getElem?_append_left hp] at hi
   ·rw [if_neg hp,List.cons_append,List.getElem?_cons_succ,List.getElem?_append_left (by exact xp41 hl hl' hi'),List.getElem?_append_left (by exact xp44 hl' hi' hp)]
    rwa [List.getElem?_append_right (by exact xp14 hp)] at hi
  ·show lab ((if i < B.length then _ else _)+1,b)=lab ((if i+1 < B.length then _ else _),b)
   by_cases hp:i+1 < B.length
   ·rw [if_pos hp,if_pos (by exact xp5 hp)];rfl
   ·rw [if_neg hp]
    by_cases hq:i < B.length
    ·rw [if_pos hq,show A.length+i+1+1=A.length+B.length+1 by exact xp50 hp hq,show i+1-B.length+1=1 by exact xp52 hq];exact t1 b
    ·rw [if_neg hq,show i-B.length+1+1=i+1-B.length+1 by exact xp56 hq]
  ·show lab (if (B++A).length < B.length then _ else _,true)=lab (if (B++A).length < B.length then _ else _,false)
   rw [if_neg (by exact xp25 hl'),hl',Nat.add_sub_cancel_left];exact hab
  ·show lab (if 0 < B.length then _ else _,false)=lab (if 0 < B.length then _ else _,true)
   by_cases hp:0 < B.length
   ·rw [if_pos hp];exact hab.symm
   ·rw [if_neg hp]
    have hB:B.length=0:=by exact xp28 hp
    rw [hB] at t1 ⊢
    exact (t1 false).symm.trans (hab.symm.trans (t1 true))
 ·have low:∀ y:Sd,1<=y.1->y.1<=A.length+B.length+1->∃ x∈rsd (B++A),lab (if x.1 < B.length then A.length+x.1+1 else x.1-B.length+1,x.2)=lab y:=by
   rintro ⟨g,b⟩ h1 h2
   have h1:1<=g:=h1
   have h2:g<=A.length+B.length+1:=h2
   by_cases hp:g<=A.length+1
   ·refine ⟨(B.length+(g-1),b),mem_rsd.2 (by show _ < _;rw [hl'];exact Nat.lt_succ_of_le (Nat.add_le_add_left (Nat.sub_le_of_le_add hp) _)),?_⟩
    show lab (if B.length+(g-1) < B.length then _ else _,b)=_
    rw [if_neg (by exact xp59),show B.length+(g-1)-B.length+1=g by exact xp61 h1]
   ·by_cases hq:g=A.length+B.length+1
    ·obtain ⟨x,hx,e⟩:∃ x∈rsd (B++A),lab (if x.1 < B.length then A.length+x.1+1 else x.1-B.length+1,x.2)=lab (1,b):=⟨(B.length,b),mem_rsd.2 (by show _ < _;exact xp62 hl'),by show lab (if B.length < B.length then _ else _,b)=_;rw [if_neg (by exact xp63),Nat.sub_self]⟩
     exact ⟨x,hx,by rw [e,hq];exact (t1 b).symm⟩
    ·refine ⟨(g-A.length-1,b),mem_rsd.2 (by show _ < _;rw [hl'];exact cl1 h2),?_⟩
     show lab (if g-A.length-1 < B.length then _ else _,b)=_
     rw [if_pos (by exact xp65 h2 hp hq),show A.length+(g-A.length-1)+1=g by exact xp66 hp]
  rintro ⟨g,b⟩ hy
  have hg:g < A.length+B.length+3:=by have:=mem_rsd.1 hy;rw [hL] at this;exact this
  by_cases h0:1<=g/\g<=A.length+B.length+1
  ·exact low (g,b) h0.1 h0.2
  ·obtain ⟨b',e⟩:=t2 g b (by exact xp67 hg h0)
   obtain ⟨x,hx,e2⟩:=low (1,b') (Nat.le_refl _) (by show 1<=_;exact xp69)
   exact ⟨x,hx,e2.trans e⟩
open Classical in
theorem ends_meet {Y:List Int} {u:Int} (hu:u≠0) (o:Row (-u::Y++[u]) q) (o':Row Y q) (h:Fc (-u::Y++[u]) q (c'+1)) (h':Fc Y q c'):Reach (rnx Y q) (Y.length,true) (0,false):=by
 apply Classical.byContradiction
 intro hn
 have h0:((0,true):Sd)∈rsd Y:=mem_rsd.2 (Nat.succ_pos _)
 have h0':((0,false):Sd)∈rsd Y:=mem_rsd.2 (Nat.succ_pos _)
 have r0:Reach (rnx Y q) (0,true) (0,false):=rch_symm o' h0' ⟨1,rfl⟩
 have hend:∀ j,itr (rnx Y q) j (0,true)≠(Y.length,true):=fun j e=>by
  have:Reach (rnx Y q) (0,true) (Y.length,true):=⟨j,e⟩
  exact hn ((rch_symm o' h0 this).trans r0)
 have hlab:∀ x∈rsd (-u::Y++[u]),(if Reach (rnx (-u::Y++[u]) q) (1,true) (rnx (-u::Y++[u]) q x) then 0 else 1)=if Reach (rnx (-u::Y++[u]) q) (1,true) x then 0 else 1:=fun x hx=>by
  have:Reach (rnx (-u::Y++[u]) q) (1,true) (rnx (-u::Y++[u]) q x)↔Reach (rnx (-u::Y++[u]) q) (1,true) x:=⟨fun h=>h.trans (rch_symm o hx (.step x)),fun h=>h.trans (.step x)⟩
  simp only [this]
 have hsh:∀ i w,Y[i]?=some w->(-u::Y++[u])[i+1]?=some w:=fun i w hi=>by
  rw [List.cons_append,List.getElem?_cons_succ,List.getElem?_append_left (List.getElem?_eq_some_iff.1 hi).1];exact hi
 obtain ⟨k,hk⟩:=r0
 have main:∀ j,(∃ i,i<=j/\itr (rnx Y q) i (0,true)=(0,false)/\Reach (rnx (-u::Y++[u]) q) (1,true) (1,false))\/Reach (rnx (-u::Y++[u]) q) (1,true) ((itr (rnx Y q) j (0,true)).1+1,(itr (rnx Y q) j (0,true)).2):=by
  intro j
  induction j with
  | zero=>exact .inr (.refl _)
  | succ j ih=>
   rcases ih with ⟨i,h1,h2⟩ | ih
   ·exact .inl ⟨i,Nat.le_succ_of_le h1,h2⟩
   ·by_cases hz:itr (rnx Y q) j (0,true)=(0,false)
    ·rw [hz] at ih;exact .inl ⟨j,Nat.le_succ _,hz,ih⟩
    ·right
     have:=emb0 o o' (e:=fun g=>g+1) (lab:=fun x=>if Reach (rnx (-u::Y++[u]) q) (1,true) x then 0 else 1) hsh hlab (fun _ _ _=>rfl) (itr_mem (rnx_mem o') h0 j) (hend j) hz
     replace this:=this.trans (if_pos ih)
     apply Classical.byContradiction
     intro hc
     exact absurd ((if_neg hc).symm.trans this) (by decide)
 have r:Reach (rnx (-u::Y++[u]) q) (1,true) (1,false):=by
  rcases main k with ⟨_,_,_,h⟩ | h
  ·exact h
  ·rw [hk] at h;exact h
 have:=(cut_le (A:=[]) (B:=Y) (c:=c'+1) (c':=c') hu (by simpa using o) (by simpa using o') (by simpa using h) (by simpa using h')).2 (by simpa using r)
 exact (xp37 this).elim
end
end Mine.Internal
end
section
namespace Mine.Internal
section
variable {q:Int->Int}
theorem Row.rot {A B:List Int} (o:Row (A++B) q):Row (B++A) q:=by
 have m:∀ v,v∈B++A↔v∈A++B:=fun v=>by rw [List.mem_append,List.mem_append,Or.comm]
 have hn:=List.nodup_append.1 o.nd
 exact ⟨List.nodup_append.2 ⟨hn.2.1,hn.1,fun a ha b hb e=>hn.2.2 b hb a ha e.symm⟩,fun v hv=>(m _).2 (o.neg v ((m v).1 hv)),fun v hv=>o.q1 v ((m v).1 hv),fun v hv=>o.qn v ((m v).1 hv)⟩
structure Pl (Z:List Int) (q:Int->Int):Prop where
 row:Row Z q
 z:(0:Int)∈Z
 cut:∀ A B,Z=A++B->∀ c,Fc (B++A) q c->2*c=Z.length+1
theorem loop_back:∀ (n:Nat) {X M:List Int} {u:Int},M.length=n->(0:Int)∈X->(∀ v∈M,v≠0/\-v∈X)->Row (-u::X++u::M) q->(∀ c,Fc (-u::X++u::M) q c->2*c=X.length+M.length+3) ->
  Row (-u::X.filter (fun x=>decide (-x∉M))++[u]) q/\(0:Int)∈X.filter (fun x=>decide (-x∉M))/\∀ c,Fc (-u::X.filter (fun x=>decide (-x∉M))++[u]) q c->2*c=(X.filter (fun x=>decide (-x∉M))).length+3:=by
 intro n
 induction n with
 | zero=>
  intro X M u hM hz _ o h
  have:M=[]:=List.eq_nil_of_length_eq_zero hM
  subst this
  have e:X.filter (fun x=>decide (-x∉([]:List Int)))=X:=List.filter_eq_self.2 fun x _=>decide_eq_true List.not_mem_nil
  rw [e];exact ⟨o,hz,h⟩
 | succ n ih=>
  intro X M u hM hz hX o h
  rcases M.eq_nil_or_concat with e | ⟨M,v,e⟩
  ·subst e;cases hM
  ·rw [List.concat_eq_append] at e
   subst e
   obtain ⟨hv,hvX⟩:=hX v (List.mem_append_right _ List.mem_cons_self)
   obtain ⟨X1,X2,rfl⟩:=List.append_of_mem hvX
   have e1:-u::(X1++-v::X2)++u::(M++[v])=(-u::X1)++-v::(X2++u::M)++[v]:=by simp
   have e2:-u::(X1++X2)++u::M=(-u::X1)++(X2++u::M):=by simp
   have nd:=o.nd
   rw [e1] at o h
   have o':Row ((-u::X1)++(X2++u::M)) q:=o.less (fun w hw=>by rw [List.mem_singleton.1 hw]) (by rw [Int.neg_neg];exact List.mem_cons_of_mem _ List.mem_cons_self)
   have hl:((-u::X1)++(X2++u::M)).length=X1.length+X2.length+M.length+2:=by simp;exact xp71
   have hz0:(0:Int)∈X1++X2:=by
    rcases List.mem_append.1 hz with h | h
    ·exact List.mem_append_left _ h
    ·rcases List.mem_cons.1 h with h | h
     ·exact (xp72 hv h).elim
     ·exact List.mem_append_right _ h
   have n1:=(List.nodup_append.1 nd)
   have n2:=(List.nodup_append.1 (List.nodup_cons.1 n1.1).2)
   have n3:=(List.nodup_append.1 (List.nodup_cons.1 n1.2.1).2)
   have nx:∀ x∈X1++X2,-x≠v:=fun x hx e=>by
    have:x=-v:=by exact xp10 e
    rcases List.mem_append.1 hx with h | h
    ·exact n2.2.2 x h (-v) List.mem_cons_self this
    ·exact (List.nodup_cons.1 n2.2.1).1 (this ▸ h)
   have ef:(X1++-v::X2).filter (fun x=>decide (-x∉M++[v]))=(X1++X2).filter (fun x=>decide (-x∉M)):=by
    have e3:(-v::X2).filter (fun x=>decide (-x∉M++[v]))=X2.filter (fun x=>decide (-x∉M++[v])):=by
     rw [List.filter_cons,if_neg]
     rw [Int.neg_neg,decide_eq_false (fun h=>h (List.mem_append_right _ List.mem_cons_self))];exact Bool.false_ne_true
    rw [List.filter_append,e3,<-List.filter_append]
    refine List.filter_congr fun x hx=>decide_eq_decide.2 (not_congr ?_)
    rw [List.mem_append,List.mem_singleton]
    exact ⟨fun h=>h.resolve_right (nx x hx),.inl⟩
   rw [ef]
   refine ih (X:=X1++X2) (M:=M) (u:=u) ?_ hz0 (fun w hw=>?_) (by rw [e2];exact o') ?_
   ·rw [List.length_append] at hM;exact Nat.succ.inj hM
   ·obtain ⟨h1,h2⟩:=hX w (List.mem_append_left _ hw)
    refine ⟨h1,?_⟩
    rcases List.mem_append.1 h2 with h | h
    ·exact List.mem_append_left _ h
    ·rcases List.mem_cons.1 h with h | h
     ·exact absurd (show w=v by exact xp75 h) (n3.2.2 w hw v List.mem_cons_self)
     ·exact List.mem_append_right _ h
   ·rw [e2]
    intro c hc
    obtain ⟨c1,h1⟩:=fc_ex o
    have k1:=h c1 h1
    have k2:=back_le hv o o' h1 hc
    have k3:=genus _ (Nat.le_refl _) o' hc
    have hz':(0:Int)∈(-u::X1)++(X2++u::M):=by
     rcases List.mem_append.1 hz0 with h | h
     ·exact List.mem_append_left _ (List.mem_cons_of_mem _ h)
     ·exact List.mem_append_right _ (List.mem_append_left _ h)
    rw [if_pos hz',hl] at k3
    simp at k1 ⊢
    exact xp76 k2 k3 k1
theorem loop_out {X M:List Int} {u:Int} (hu:u≠0) (hz:(0:Int)∈X) (hX:∀ v∈M,v≠0/\-v∈X) (p:Pl (-u::X++u::M) q):
  Pl (X.filter fun x=>decide (-x∉M)) q/\Reach (rnx (X.filter fun x=>decide (-x∉M)) q) ((X.filter fun x=>decide (-x∉M)).length,true) (0,false):=by
 obtain ⟨o,hz',h⟩:=loop_back _ rfl hz hX p.row fun c hc=>by
  have:=p.cut [] _ rfl c (by rw [List.append_nil];exact hc)
  simp at this;exact xp70 this
 generalize (X.filter fun x=>decide (-x∉M))=Y at *
 have oY:Row Y q:=by
  have:=Row.less (A:=[]) (B:=Y) (E:=[u]) (z:=-u) (q:=q) o (fun w hw=>by rw [List.mem_singleton.1 hw]) (by rw [Int.neg_neg];exact List.mem_cons_of_mem _ List.mem_cons_self)
  exact this
 obtain ⟨c1,h1⟩:=fc_ex o
 have k1:=h c1 h1
 have cut:∀ A B,Y=A++B->∀ c,Fc (B++A) q c->2*c=Y.length+1:=by
  intro A B e c hc
  subst e
  have o':=oY.rot
  have k2:=(cut_le hu o o' h1 hc).1
  have k3:=genus _ (Nat.le_refl _) o' hc
  rw [if_pos (List.mem_append.2 (List.mem_append.1 hz').symm)] at k3
  simp at k1 k3 ⊢
  exact xp73 k2 k1 k3
 refine ⟨⟨oY,hz',cut⟩,?_⟩
 obtain ⟨c2,h2⟩:=fc_ex oY
 have k2:=cut [] Y rfl c2 (by rw [List.append_nil];exact h2)
 have:c1=c2+1:=by exact xp74 k1 k2
 rw [this] at h1
 exact ends_meet hu o oY h1 h2
end
end Mine.Internal
end
section
set_option backward.eqns.nonrecursive false
namespace Mine.Internal
noncomputable def fnd (P:Nat->Bool):Nat->Nat->Option Nat
 | 0,_=>none
 | k+1,l=>if P l then some l else fnd P k (l+1)
theorem fnd0 {P:Nat->Bool} {l:Nat}:fnd P 0 l=none:=rfl
theorem fndS {P:Nat->Bool} {k l:Nat}:fnd P (k+1) l=if P l then some l else fnd P k (l+1):=rfl
noncomputable def cfn (P:Nat->Bool) (n l:Nat):Nat:=match fnd P (n-l) l with
 | some b=>b
 | none=>(fnd P n 0).getD 0
section
variable {P:Nat->Bool} {n l:Nat}
theorem cfn_here (h:l < n) (hp:P l=true):cfn P n l=l:=by
 unfold cfn;rw [show n-l=(n-l-1)+1 by exact o11 h];simp [fndS,hp]
theorem cfn_next (h:l < n) (hp:P l=false):cfn P n l=cfn P n (l+1):=by
 unfold cfn;rw [show n-l=(n-(l+1))+1 by exact o12 h];simp [fndS,hp]
theorem cfn_wrap:cfn P n n=cfn P n 0:=by
 unfold cfn;simp [fnd0];cases fnd P n 0<;>simp
theorem fnd_some:∀ {k l b:Nat},fnd P k l=some b->l<=b/\b < l+k/\P b=true
 | 0,_,_,h=>by simp [fnd0] at h
 | k+1,l,b,h=>by
  by_cases hp:P l=true
  ·simp [fndS,hp] at h;subst h;exact ⟨by exact o10,by exact o13,hp⟩
  ·simp [fndS,hp] at h
   have:=fnd_some h
   exact ⟨by exact o14 this.1,by exact o8 this.2.1,this.2.2⟩
theorem fnd_none:∀ {k l:Nat},fnd P k l=none->∀ b,l<=b->b < l+k->P b=false
 | 0,_,_,b,h1,h2=>by exact (o9 h1 h2).elim
 | k+1,l,h,b,h1,h2=>by
  by_cases hp:P l=true
  ·simp [fndS,hp] at h
  ·simp [fndS,hp] at h
   by_cases e:b=l
   ·subst e;simpa using hp
   ·exact fnd_none h b (by exact o16 h1 e) (by exact o17 h2)
theorem cfn_spec (he:∃ k,k < n/\P k=true) (h:l<=n):cfn P n l < n/\P (cfn P n l)=true:=by
 unfold cfn
 cases e:fnd P (n-l) l with
 | some b=>have:=fnd_some e;exact ⟨by simp;exact o15 h this.2.1,this.2.2⟩
 | none=>
  cases e2:fnd P n 0 with
  | some b=>have:=fnd_some e2;exact ⟨by simp;exact o18 this.2.1,this.2.2⟩
  | none=>
   obtain ⟨k,hk,hp⟩:=he
   have:=fnd_none e2 k (by exact o19) (by exact o20 hk)
   rw [this] at hp;cases hp
theorem fnd_rel {α:Type} {rel:α->α->Prop} (rf:∀ x,rel x x) (tr:∀ {x y z},rel x y->rel y z->rel x z) {h:Nat->α}:∀ {k l:Nat},(∀ i,l<=i->i < l+k->P i=false->rel (h i) (h (i+1))) ->
  match fnd P k l with
  | some b=>rel (h l) (h b)
  | none=>rel (h l) (h (l+k))
 | 0,l,hs=>by simp [fnd0];exact rf _
 | k+1,l,hs=>by
  by_cases hp:P l=true
  ·simp [fndS,hp];exact rf _
  ·have hp':P l=false:=by simpa using hp
   have ih:=fnd_rel rf tr (k:=k) (l:=l+1) (h:=h) (fun i h1 h2=>hs i (by exact o14 h1) (by exact o8 h2))
   have h0:=hs l (by exact o10) (by exact o13) hp'
   simp only [fndS,hp',Bool.false_eq_true,if_false]
   cases e:fnd P k (l+1) with
   | some b=>rw [e] at ih;exact tr h0 ih
   | none=>rw [e] at ih;have:=tr h0 ih;rw [show l+1+k=l+(k+1) by exact o22] at this;exact this
theorem cfn_rel {α:Type} {rel:α->α->Prop} (rf:∀ x,rel x x) (tr:∀ {x y z},rel x y->rel y z->rel x z) (he:∃ k,k < n/\P k=true) {h:Nat->α} (hs:∀ i,i < n->P i=false->rel (h i) (h (i+1))) (hw:rel (h n) (h 0)) (hl:l<=n):rel (h l) (h (cfn P n l)):=by
 have a:=fnd_rel (P:=P) rf tr (k:=n-l) (l:=l) (h:=h) (fun i h1 h2=>hs i (by exact o15 hl h2))
 have b:=fnd_rel (P:=P) rf tr (k:=n) (l:=0) (h:=h) (fun i h1 h2=>hs i (by exact o18 h2))
 unfold cfn
 cases e:fnd P (n-l) l with
 | some b=>rw [e] at a;exact a
 | none=>
  rw [e] at a
  rw [show l+(n-l)=n by exact o21 hl] at a
  cases e2:fnd P n 0 with
  | some c=>rw [e2] at b;exact tr (tr a hw) b
  | none=>
   obtain ⟨k,hk,hp⟩:=he
   have:=fnd_none e2 k (by exact o19) (by exact o20 hk)
   rw [this] at hp;cases hp
end
noncomputable def col (w:List Nat) (l:Nat):Nat:=w.getD l 0
noncomputable def reg (s:Nat) (w:List Nat) (r l:Nat):Nat:=if r=0 then w.length else if r=s then w.length+1 else cfn (fun k=>col w k+1==r) w.length l
noncomputable def nt (w:List Nat) (p l:Nat):Nat:=cfn (fun k=>col w k==p||col w k+1==p) w.length l
noncomputable def np (w:List Nat) (p l:Nat):Nat×Bool:=(nt w p l,col w (nt w p l)==p)
noncomputable def pA (w:List Nat) (x:Nat×Bool):Nat:=col w x.1+(if x.2 then 1 else 0)
noncomputable def pB (w:List Nat) (x:Nat×Bool):Nat:=col w x.1+(if x.2 then 0 else 1)
structure Rope (s:Nat) (w:List Nat) (R:List (Nat×Bool)):Prop where
 hs:2<=s
 hw:∀ l,l < w.length->col w l+1 < s
 hc:∀ c,c+1 < s->∃ l,l < w.length/\col w l=c
 nd:R.Nodup
 mem:∀ l b,(l,b)∈R↔l < w.length
 suc:∀ g x,R[g]?=some x->R[(g+1) % R.length]?=some (np w (pA w x) (x.1+1))
section
variable {s:Nat} {w:List Nat} {R:List (Nat×Bool)} {r p l:Nat}
theorem reg_here (o:Rope s w R) (h:l < w.length):reg s w (col w l+1) l=l:=by
 have:=o.hw l h
 unfold reg;rw [if_neg (by exact o23),if_neg (by exact o24 this)]
 exact cfn_here h (by simp)
theorem reg_next (h:l < w.length) (hn:col w l+1≠r):reg s w r l=reg s w r (l+1):=by
 unfold reg;split;rfl;split;rfl
 exact cfn_next h (by simpa using hn)
theorem reg_wrap:reg s w r w.length=reg s w r 0:=by
 unfold reg;split;rfl;split;rfl;exact cfn_wrap
theorem touch (o:Rope s w R) (hp:p < s):∃ k,k < w.length/\(col w k==p||col w k+1==p)=true:=by
 by_cases h:p+1 < s
 ·obtain ⟨k,hk,e⟩:=o.hc p h;exact ⟨k,hk,by simp [e]⟩
 ·have:=o.hs
  obtain ⟨k,hk,e⟩:=o.hc (p-1) (by exact o31 hp this);exact ⟨k,hk,by simp;exact o39 e⟩
theorem nt_touch (o:Rope s w R) (hp:p < s) (hl:l<=w.length):col w (nt w p l)=p\/col w (nt w p l)+1=p:=by
 have:=(cfn_spec (touch o hp) hl).2
 simpa [nt] using this
theorem pB_np (o:Rope s w R) (hp:p < s) (hl:l<=w.length):pB w (np w p l)=p:=by
 have:=nt_touch o hp hl
 unfold pB np
 by_cases e:col w (nt w p l)=p
 ·simp [e]
 ·simp [e];exact o35 this e
theorem reg_nt (o:Rope s w R) (hp:p < s) (hl:l<=w.length) (hr:r=p\/r=p+1):reg s w r l=reg s w r (nt w p l):=by
 refine cfn_rel (rel:=Eq) (fun _=>rfl) (fun a b=>a.trans b) (touch o hp) (h:=fun k=>reg s w r k) ?_ reg_wrap hl
 intro i hi hP
 simp at hP
 exact reg_next hi (by exact o38 hr hP.1 hP.2)
theorem np_wrap:np w p w.length=np w p 0:=by unfold np nt;rw [cfn_wrap]
theorem np_next (h:l < w.length) (h1:col w l≠p) (h2:col w l+1≠p):np w p l=np w p (l+1):=by
 unfold np nt;rw [cfn_next h (by simp [h1,h2])]
theorem np_right (h:l < w.length):np w (col w l) l=(l,true):=by
 unfold np nt;rw [cfn_here h (by simp)];simp
theorem np_left (h:l < w.length):np w (col w l+1) l=(l,false):=by
 unfold np nt;rw [cfn_here h (by simp)];simp
end
end Mine.Internal
end
section
set_option backward.eqns.nonrecursive false
namespace Mine.Internal
section
variable {R:List (Nat×Bool)}
theorem at_idx {x:Nat×Bool} (h:x∈R):R[R.idxOf x]?=some x:=by
 have h2:=List.idxOf_lt_length_iff.2 h
 rw [List.getElem?_eq_getElem h2,List.getElem_idxOf]
end
section
variable {s:Nat} {w:List Nat} {R:List (Nat×Bool)}
structure Code (n:Nat) (R:List (Nat×Bool)):Prop where
 nd:R.Nodup
 mem:∀ l b,(l,b)∈R↔l < n
theorem Rope.code (o:Rope s w R):Code w.length R:=⟨o.nd,o.mem⟩
theorem Code.lt {n:Nat} (o:Code n R) {g l:Nat} {b:Bool} (h:R[g]?=some (l,b)):l < n/\g < R.length:=
 ⟨(o.mem l b).1 (List.mem_of_getElem? h),(List.getElem?_eq_some_iff.1 h).1⟩
theorem Code.at {n:Nat} (o:Code n R) {l:Nat} (h:l < n) (b:Bool):R[R.idxOf (l,b)]?=some (l,b):=at_idx ((o.mem l b).2 h)
theorem Code.ilt {n:Nat} (o:Code n R) {l:Nat} (h:l < n) (b:Bool):R.idxOf (l,b) < R.length:=List.idxOf_lt_length_iff.2 ((o.mem l b).2 h)
theorem Rope.lt (o:Rope s w R) {g l:Nat} {b:Bool} (h:R[g]?=some (l,b)):l < w.length/\g < R.length:=o.code.lt h
theorem Rope.at (o:Rope s w R) {l:Nat} (h:l < w.length) (b:Bool):R[R.idxOf (l,b)]?=some (l,b):=o.code.at h b
theorem Rope.ilt (o:Rope s w R) {l:Nat} (h:l < w.length) (b:Bool):R.idxOf (l,b) < R.length:=o.code.ilt h b
noncomputable def cl (s:Nat) (w:List Nat) (R:List (Nat×Bool)) (x:Nat×Bool):Nat:=
 let y:=(R[if x.1 < R.length then x.1 else 0]?).getD (0,true)
 reg s w (pB w y+(if x.2 then 1 else 0)) y.1
theorem cl_at {g l:Nat} {b c:Bool} (e:R[g]?=some (l,c)):cl s w R (g,b)=reg s w (pB w (l,c)+(if b then 1 else 0)) l:=by
 have:=(List.getElem?_eq_some_iff.1 e).1
 simp only [cl,this,if_true,e,Option.getD_some]
theorem cl_out {g:Nat} {b:Bool} (e:R.length<=g):cl s w R (g,b)=cl s w R (0,b):=by
 have:¬ g < R.length:=by exact o43 e
 simp [cl,this]
theorem pA_lt (o:Rope s w R) {l:Nat} (h:l < w.length) (b:Bool):pA w (l,b) < s:=by
 have:=o.hw l h
 unfold pA;simp;split<;>(first | exact o46 this | exact o45 this)
theorem cl_after (o:Rope s w R) {g l:Nat} {b c:Bool} (e:R[g]?=some (l,c)):cl s w R (g+1,b)=reg s w (pA w (l,c)+(if b then 1 else 0)) (l+1):=by
 have h1:=o.lt e
 have h2:=o.suc g _ e
 have h3:=pA_lt o h1.1 c
 have h4:l+1<=w.length:=h1.1
 have h5:cl s w R (g+1,b)=cl s w R ((g+1) % R.length,b):=by
  by_cases h:g+1 < R.length
  ·rw [Nat.mod_eq_of_lt h]
  ·have:g+1=R.length:=by exact o51 h1.2 h
   rw [this,Nat.mod_self];exact cl_out (Nat.le_refl _)
 rw [h5]
 have h6:np w (pA w (l,c)) (l+1)=(nt w (pA w (l,c)) (l+1),col w (nt w (pA w (l,c)) (l+1))==pA w (l,c)):=rfl
 simp only at h2
 rw [h6] at h2
 rw [cl_at h2,<-h6,pB_np o h3 h4]
 exact (reg_nt o h3 h4 (by cases b<;>simp)).symm
theorem cl_fw (o:Rope s w R) {g l:Nat} {c:Bool} (e:R[g]?=some (l,c)):cl s w R (g,true)=if c then cl s w R (R.idxOf (l,!c),false) else cl s w R (R.idxOf (l,!c)+1,true):=by
 cases c with
 | true=>rw [if_pos rfl,cl_at e,cl_at (o.at (o.lt e).1 _)];simp [pB]
 | false=>
  rw [if_neg Bool.false_ne_true,cl_at e,cl_after o (o.at (o.lt e).1 _)];simp [pB,pA]
  exact reg_next (o.lt e).1 (by exact o50)
theorem cl_bw (o:Rope s w R) {g l:Nat} {c:Bool} (e:R[g]?=some (l,c)):cl s w R (g+1,false)=if c then cl s w R (R.idxOf (l,!c)+1,true) else cl s w R (R.idxOf (l,!c),false):=by
 cases c with
 | true=>rw [if_pos rfl,cl_after o e,cl_after o (o.at (o.lt e).1 _)];simp [pA]
 | false=>
  rw [if_neg Bool.false_ne_true,cl_after o e,cl_at (o.at (o.lt e).1 _)];simp [pA,pB]
  exact (reg_next (o.lt e).1 (by exact o61)).symm
theorem Rope.pos (o:Rope s w R):0 < R.length:=by
 have:=o.hs
 obtain ⟨l,hl,-⟩:=o.hc 0 (by exact o48 this)
 exact List.length_pos_of_mem ((o.mem l true).2 hl)
theorem Rope.head (o:Rope s w R):∃ l b,R[0]?=some (l,b):=⟨R[0]'o.pos |>.1,R[0]'o.pos |>.2,by rw [List.getElem?_eq_getElem o.pos]⟩
noncomputable def lam (s:Nat) (w:List Nat) (R:List (Nat×Bool)) (x:Nat×Bool):Nat:=
 if cl s w R x=cl s w R (0,false) then cl s w R (0,true) else cl s w R x
theorem lam_cut:lam s w R (0,false)=lam s w R (0,true):=by
 unfold lam;rw [if_pos rfl];split<;>rfl
theorem lam_out {g:Nat} {b:Bool} (e:R.length<=g):lam s w R (g,b)=lam s w R (0,b):=by unfold lam;rw [cl_out e]
theorem lam_fw (o:Rope s w R) {g l:Nat} {c:Bool} (e:R[g]?=some (l,c)):lam s w R (g,true)=if c then lam s w R (R.idxOf (l,!c),false) else lam s w R (R.idxOf (l,!c)+1,true):=by
 have:=cl_fw o e
 unfold lam;rw [this];cases c<;>rfl
theorem lam_bw (o:Rope s w R) {g l:Nat} {c:Bool} (e:R[g]?=some (l,c)):lam s w R (g+1,false)=if c then lam s w R (R.idxOf (l,!c)+1,true) else lam s w R (R.idxOf (l,!c),false):=by
 have:=cl_bw o e
 unfold lam;rw [this];cases c<;>rfl
theorem lam_all (o:Rope s w R) {v:Nat} (h1:v < w.length+2) (h2:v≠cl s w R (0,false)):∃ x:Nat×Bool,x.1 < R.length/\lam s w R x=v:=by
 have:∃ x:Nat×Bool,x.1 < R.length/\cl s w R x=v:=by
  have hs:=o.hs
  by_cases a:v < w.length
  ·refine ⟨(R.idxOf (v,true),true),o.ilt a true,?_⟩
   rw [cl_at (o.at a true)];simp [pB];exact reg_here o a
  ·by_cases b:v=w.length
   ·obtain ⟨l,hl,e⟩:=o.hc 0 (by exact o48 hs)
    refine ⟨(R.idxOf (l,true),false),o.ilt hl true,?_⟩
    rw [cl_at (o.at hl true)];simp [pB,e,reg,b]
   ·obtain ⟨l,hl,e⟩:=o.hc (s-2) (by exact o72 hs)
    refine ⟨(R.idxOf (l,false),true),o.ilt hl false,?_⟩
    rw [cl_at (o.at hl false)];simp [pB,e]
    rw [show s-2+1+1=s by exact o77 hs]
    unfold reg;rw [if_neg (by exact o79 hs),if_pos rfl];exact xp1 h1 a b
 obtain ⟨x,hx,e⟩:=this
 refine ⟨x,hx,?_⟩
 unfold lam;rw [if_neg (by rw [e];exact h2),e]
theorem code_len {m:Nat} (o:Code m R):R.length=2*m:=by
 let A:List (Nat×Bool):=(List.range m).flatMap fun l=>[(l,true),(l,false)]
 have hA:∀ x,x∈A↔x.1 < m:=by
  rintro ⟨l,b⟩;simp [A];constructor
  ·rintro ⟨a,h,⟨rfl,_⟩ | ⟨rfl,_⟩⟩<;>exact h
  ·intro h;exact ⟨l,h,by cases b<;>simp⟩
 have hl:∀ n,((List.range n).flatMap fun l=>[((l:Nat),true),(l,false)]).length=2*n:=by
  intro n;induction n with
  | zero=>rfl
  | succ n ih=>rw [List.range_succ,List.flatMap_append,List.length_append,ih];simp;exact o71
 have hn:∀ n,((List.range n).flatMap fun l=>[((l:Nat),true),(l,false)]).Nodup:=by
  intro n;induction n with
  | zero=>simp
  | succ n ih=>
   rw [List.range_succ,List.flatMap_append,List.nodup_append]
   refine ⟨ih,by simp,?_⟩
   intro a ha b hb e
   subst e
   simp at ha hb
   obtain ⟨k,hk,h⟩:=ha
   rcases hb with rfl | rfl<;>simp at h<;>exact o74 hk h
 have h1:=nodup_le o.nd (m:=A) (fun x hx=>(hA x).2 ((o.mem x.1 x.2).1 hx))
 have h2:=nodup_le (hn m) (m:=R) (fun x hx=>(o.mem x.1 x.2).2 ((hA x).1 hx))
 rw [hl] at h2
 have:A.length=2*m:=hl _
 exact o76 h1 h2 this
theorem rope_len (o:Rope s w R):R.length=2*w.length:=code_len o.code
end
end Mine.Internal
end
section
namespace Mine.Internal
section
variable {s:Nat} {w:List Nat} {R:List (Nat×Bool)}
theorem rot_get {α:Type} (R:List α) (k g:Nat) (hk:k<=R.length) (hg:g < R.length):(R.drop k++R.take k)[g]?=R[(g+k) % R.length]?:=by
 by_cases h:g < R.length-k
 ·rw [List.getElem?_append_left (by simp;exact o81 h),List.getElem?_drop,Nat.mod_eq_of_lt (by exact o82 h),Nat.add_comm]
 ·rw [List.getElem?_append_right (by simp;exact o83 h),List.length_drop,List.getElem?_take,if_pos (by exact o87 hg h)]
  congr 1
  rw [Nat.mod_eq_sub_mod (by exact o83 h),Nat.mod_eq_of_lt (by exact o92 hk hg)];exact o106 hk
theorem Rope.rot (o:Rope s w R) (k:Nat) (hk:k<=R.length):Rope s w (R.drop k++R.take k) where
 hs:=o.hs
 hw:=o.hw
 hc:=o.hc
 nd:=by
  have:=o.nd
  rw [<-List.take_append_drop k R,List.nodup_append] at this
  rw [List.nodup_append]
  exact ⟨this.2.1,this.1,fun a ha b hb e=>this.2.2 b hb a ha e.symm⟩
 mem:=fun l b=>by
  rw [<-o.mem l b]
  have:(l,b)∈R↔(l,b)∈R.take k++R.drop k:=by rw [List.take_append_drop]
  rw [this,List.mem_append,List.mem_append,Or.comm]
 suc:=fun g x e=>by
  have hm:(R.drop k++R.take k).length=R.length:=by simp;exact o84
  have hg:g < R.length:=by rw [<-hm];exact (List.getElem?_eq_some_iff.1 e).1
  rw [hm,rot_get R k _ hk (Nat.mod_lt _ o.pos)]
  rw [rot_get R k g hk hg] at e
  have:=o.suc _ _ e
  rw [<-this]
  congr 1
  rw [Nat.mod_add_mod,Nat.mod_add_mod];congr 1;exact o1
end
noncomputable def stp (i p:Nat):Nat:=if p=i then i+1 else if p=i+1 then i else p
noncomputable def fin:List Nat->Nat->Nat
 | [],p=>p
 | i::v,p=>fin v (stp i p)
theorem finN {p:Nat}:fin [] p=p:=rfl
theorem finC {i p:Nat} {v:List Nat}:fin (i::v) p=fin v (stp i p):=rfl
noncomputable def wlk:List Nat->Nat->Nat->List (Nat×Bool)
 | [],_,_=>[]
 | i::v,l,p=>(if p=i then [(l,true)] else if p=i+1 then [(l,false)] else [])++wlk v (l+1) (stp i p)
theorem wlkN {l p:Nat}:wlk [] l p=[]:=rfl
theorem wlkC {i l p:Nat} {v:List Nat}:wlk (i::v) l p=(if p=i then [(l,true)] else if p=i+1 then [(l,false)] else [])++wlk v (l+1) (stp i p):=rfl
noncomputable def rnd (w:List Nat):Nat->Nat->List (Nat×Bool)
 | 0,_=>[]
 | t+1,p=>wlk w 0 p++rnd w t (fin w p)
theorem rnd0 {w:List Nat} {p:Nat}:rnd w 0 p=[]:=rfl
theorem rndS {w:List Nat} {t p:Nat}:rnd w (t+1) p=wlk w 0 p++rnd w t (fin w p):=rfl
theorem stp_inj {i p q:Nat} (h:stp i p=stp i q):p=q:=by
 unfold stp at h;split at h<;>split at h<;>(try split at h)<;>(try split at h)<;>(first | exact o90 (by assumption) (by assumption) | exact o91 h | exact o93 (by assumption) h | exact o94 h | exact o97 (by assumption) (by assumption) | exact o100 (by assumption) h | exact o105 (by assumption) h | exact o108 (by assumption) h | exact o103 h)
theorem fin_inj:∀ {v:List Nat} {p q:Nat},fin v p=fin v q->p=q
 | [],_,_,h=>h
 | _::v,_,_,h=>stp_inj (fin_inj (v:=v) h)
theorem stp_lt {s i p:Nat} (hi:i+1 < s) (hp:p < s):stp i p < s:=by
 unfold stp;split;exact o46 hi;split<;>(first | exact o85 hi | exact o88 hp)
theorem fin_lt {s:Nat}:∀ {v:List Nat} {p:Nat},(∀ i∈v,i+1 < s)->p < s->fin v p < s
 | [],_,_,h=>h
 | i::v,_,hi,h=>fin_lt (v:=v) (fun j hj=>hi j (by simp [hj])) (stp_lt (hi i (by simp)) h)
noncomputable def Ch (w:List Nat):Nat->Nat->List (Nat×Bool)->Nat->Prop
 | p,l,[],q=>np w p l=np w q 0
 | p,l,x::L,q=>x=np w p l/\Ch w (pA w x) (x.1+1) L q
theorem ChN {w:List Nat} {p l q:Nat}:Ch w p l [] q=(np w p l=np w q 0):=rfl
theorem Ch.congr {w:List Nat} {p l p' l' q:Nat} {L:List (Nat×Bool)} (e:np w p l=np w p' l') (h:Ch w p l L q):Ch w p' l' L q:=by
 cases L with
 | nil=>exact e.symm.trans h
 | cons x L=>exact ⟨h.1.trans e,h.2⟩
theorem Ch.append {w:List Nat} {q q':Nat} {L':List (Nat×Bool)} (h':Ch w q 0 L' q'):∀ {p l:Nat} {L:List (Nat×Bool)},Ch w p l L q->Ch w p l (L++L') q'
 | _,_,[],h=>Ch.congr h.symm h'
 | _,_,_::_,h=>⟨h.1,Ch.append h' h.2⟩
theorem ch_wlk {w:List Nat}:∀ (k:Nat) {l p:Nat},w.length=l+k->Ch w p l (wlk (w.drop l) l p) (fin (w.drop l) p)
 | 0,l,p,h=>by
  rw [List.drop_eq_nil_of_le (by exact o86 h)]
  simp only [wlkN,finN,ChN]
  rw [show l=w.length by exact o96 h];exact np_wrap
 | k+1,l,p,h=>by
  have hl:l < w.length:=by exact o98 h
  have hd:w.drop l=col w l::w.drop (l+1):=by
   rw [List.drop_eq_getElem_cons hl];simp [col,List.getD,hl]
  rw [hd]
  simp only [wlkC,finC]
  have ih:=ch_wlk (w:=w) k (l:=l+1) (p:=stp (col w l) p) (by exact o102 h)
  by_cases h1:p=col w l
  ·rw [if_pos h1];subst h1
   refine ⟨(np_right hl).symm,?_⟩
   have:stp (col w l) (col w l)=pA w (l,true):=by simp [stp,pA]
   rw [this] at ih ⊢;exact ih
  ·rw [if_neg h1]
   by_cases h2:p=col w l+1
   ·rw [if_pos h2];subst h2
    refine ⟨(np_left hl).symm,?_⟩
    have:stp (col w l) (col w l+1)=pA w (l,false):=by simp [stp,pA]
    rw [this] at ih ⊢;exact ih
   ·rw [if_neg h2]
    have:stp (col w l) p=p:=by simp [stp,h1,h2]
    rw [this] at ih ⊢
    exact Ch.congr (np_next hl (by exact o114 h1) (by exact o121 h2)).symm ih
theorem itr_r {α:Type} (f:α->α) (k:Nat) (x:α):itr f (k+1) x=itr f k (f x):=by
 have:=itr_add f k 1 x;simpa [itr0,itrS] using this
theorem ch_rnd {w:List Nat}:∀ (t:Nat) {p:Nat},Ch w p 0 (rnd w t p) (itr (fin w) t p)
 | 0,_=>rfl
 | t+1,p=>by
  rw [itr_r]
  have:=ch_wlk (w:=w) w.length (l:=0) (p:=p) (by exact o89)
  simp only [List.drop_zero] at this
  exact (ch_rnd t).append this
theorem Ch.next {w:List Nat} {q:Nat}:∀ {p l:Nat} {L:List (Nat×Bool)},Ch w p l L q->∀ g x,L[g]?=some x->(∀ y,L[g+1]?=some y->y=np w (pA w x) (x.1+1))/\(L[g+1]?=none->np w (pA w x) (x.1+1)=np w q 0)
 | _,_,[],_,g,x,e=>by simp at e
 | p,l,z::L,h,g,x,e=>by
  cases g with
  | succ g=>simpa using Ch.next h.2 g x (by simpa using e)
  | zero=>
   simp at e;subst e
   cases L with
   | nil=>exact ⟨by simp,fun _=>h.2⟩
   | cons y L=>refine ⟨fun y' e=>?_,by simp⟩;simp at e;subst e;exact h.2.1
theorem suc_of {w:List Nat} {R:List (Nat×Bool)} (h:Ch w 0 0 R 0) (g:Nat) (x:Nat×Bool) (e:R[g]?=some x):R[(g+1) % R.length]?=some (np w (pA w x) (x.1+1)):=by
 have hg:=(List.getElem?_eq_some_iff.1 e).1
 have hn:=h.next g x e
 by_cases h1:g+1 < R.length
 ·rw [Nat.mod_eq_of_lt h1,List.getElem?_eq_getElem h1]
  rw [hn.1 _ (List.getElem?_eq_getElem h1)]
 ·rw [show g+1=R.length by exact o51 hg h1,Nat.mod_self]
  rw [hn.2 (by rw [List.getElem?_eq_none_iff];exact o95 h1)]
  cases R with
  | nil=>simp at hg
  | cons y R=>simp;exact h.1
theorem mem_wlk {l:Nat} {b:Bool}:∀ {v:List Nat} {l0 p:Nat},(l,b)∈wlk v l0 p↔∃ k,l=l0+k/\k < v.length/\fin (v.take k) p=v.getD k 0+(if b then 0 else 1)
 | [],l0,p=>by simp [wlkN]
 | i::v,l0,p=>by
  simp only [wlkC,List.mem_append]
  rw [mem_wlk]
  constructor
  ·rintro (h | ⟨k,h1,h2,h3⟩)
   ·refine ⟨0,?_,by simp,?_⟩
    ·split at h;simp at h;exact o99 h.1;split at h<;>simp at h;exact o99 h.1
    ·split at h
     ·simp at h;simp [finN,h];assumption
     ·split at h<;>simp at h
      simp [finN,h];assumption
   ·exact ⟨k+1,by exact o109 h1,by simp;exact o88 h2,by simpa [finN,finC] using h3⟩
  ·rintro ⟨k,h1,h2,h3⟩
   cases k with
   | zero=>
    left
    simp [finN] at h3
    cases b with
    | true=>simp at h3;simp [h3];exact o119 h1
    | false=>simp at h3;rw [if_neg (by exact o120 h3),if_pos h3];simp;exact o119 h1
   | succ k=>right;exact ⟨k,by exact o102 h1,by simpa using h2,by simpa [finN,finC] using h3⟩
theorem nd_wlk:∀ {v:List Nat} {l0 p:Nat},(wlk v l0 p).Nodup
 | [],_,_=>by simp [wlkN]
 | i::v,l0,p=>by
  simp only [wlkC]
  rw [List.nodup_append]
  refine ⟨by split;simp;split<;>simp,nd_wlk,?_⟩
  rintro ⟨a,b⟩ ha ⟨c,d⟩ hb e
  obtain ⟨k,h1,-⟩:=mem_wlk.1 hb
  have:a=l0:=by split at ha;simp at ha;exact o103 ha.1;split at ha<;>simp at ha;exact o103 ha.1
  simp at e;exact (o111 h1 this e.1).elim
theorem mem_rnd {w:List Nat} {x:Nat×Bool}:∀ {t p:Nat},x∈rnd w t p↔∃ k,k < t/\x∈wlk w 0 (itr (fin w) k p)
 | 0,_=>by simp [rnd0]
 | t+1,p=>by
  simp only [rndS,List.mem_append];rw [mem_rnd]
  constructor
  ·rintro (h | ⟨k,h1,h2⟩)
   ·exact ⟨0,by exact o101,h⟩
   ·exact ⟨k+1,by exact o104 h1,by rw [itr_r];exact h2⟩
  ·rintro ⟨k,h1,h2⟩
   cases k with
   | zero=>left;exact h2
   | succ k=>right;exact ⟨k,by exact o107 h1,by rw [itr_r] at h2;exact h2⟩
theorem nd_rnd {w:List Nat}:∀ {t p:Nat},(∀ i j,i < j->j < t->itr (fin w) i p≠itr (fin w) j p)->(rnd w t p).Nodup
 | 0,_,_=>by simp [rnd0]
 | t+1,p,h=>by
  simp only [rndS];rw [List.nodup_append]
  refine ⟨nd_wlk,nd_rnd (fun i j h1 h2=>?_),?_⟩
  ·have:=h (i+1) (j+1) (by exact o104 h1) (by exact o104 h2);rw [itr_r,itr_r] at this;exact this
  ·rintro ⟨l,b⟩ ha y hb rfl
   obtain ⟨k,hk,hb⟩:=mem_rnd.1 hb
   obtain ⟨i,e1,-,e2⟩:=mem_wlk.1 ha
   obtain ⟨j,e3,-,e4⟩:=mem_wlk.1 hb
   have:i=j:=by exact o118 e1 e3
   subst this
   have:=fin_inj (e2.trans e4.symm)
   refine h 0 (k+1) (by exact o101) (by exact o104 hk) ?_
   rw [itr_r];exact this
theorem full {s:Nat} {A:List Nat} (nd:A.Nodup) (h:∀ x∈A,x < s) (hl:A.length=s) {p:Nat} (hp:p < s):p∈A:=by
 apply Classical.byContradiction;intro hn
 have:=nodup_le (l:=p::A) (m:=List.range s) (List.nodup_cons.2 ⟨hn,nd⟩) (fun x hx=>by
  rcases List.mem_cons.1 hx with rfl | h'
  ·exact List.mem_range.2 hp
  ·exact List.mem_range.2 (h x h'))
 simp at this;exact (o110 hl this).elim
theorem fin_low {c:Nat}:∀ {v:List Nat} {p:Nat},c∉v->p<=c->fin v p<=c
 | [],_,_,h=>h
 | i::v,p,hv,h=>by
  simp at hv
  refine fin_low (v:=v) hv.2 ?_
  unfold stp;split;exact o113 h hv.1 (by assumption);split<;>(first | exact o116 h (by assumption) | exact o55 h)
theorem rope_of {s:Nat} {w:List Nat} (hs:2<=s) (hw:∀ i∈w,i+1 < s) (hd:((List.range s).map fun k=>itr (fin w) k 0).Nodup) (h0:itr (fin w) s 0=0):Rope s w (rnd w s 0):=by
 have hlt:∀ k,itr (fin w) k 0 < s:=fun k=>by
  induction k with
  | zero=>simp [itr0];exact o112 hs
  | succ k ih=>exact fin_lt hw ih
 have hne:∀ i j,i < j->j < s->itr (fin w) i 0≠itr (fin w) j 0:=by
  intro i j h1 h2
  rw [List.Nodup,List.pairwise_iff_getElem] at hd
  have:=hd i j (by simp;exact o117 h1 h2) (by simp;exact o88 h2) h1
  simpa using this
 have hcol:∀ l,l < w.length->col w l∈w:=fun l hl=>by simp [col,List.getD,hl]
 refine ⟨hs,fun l hl=>hw _ (hcol l hl),?_,nd_rnd hne,?_,suc_of (by have:=ch_rnd (w:=w) s (p:=0);rw [h0] at this;exact this)⟩
 ·intro c hc
  have:c∈w:=by
   apply Classical.byContradiction;intro hn
   have hle:∀ k,itr (fin w) k 0<=c:=fun k=>by
    induction k with
    | zero=>simp [itr0]
    | succ k ih=>exact fin_low hn ih
   have:=full hd (s:=s) (by simp;intro k _;exact hlt k) (by simp) (p:=c+1) hc
   simp at this
   obtain ⟨k,-,e⟩:=this
   have:=hle k;exact (o125 e this).elim
  obtain ⟨l,hl,e⟩:=List.getElem_of_mem this
  exact ⟨l,hl,by simp [col,List.getD,hl,e]⟩
 ·intro l b
  rw [mem_rnd]
  constructor
  ·rintro ⟨k,-,h⟩
   obtain ⟨i,e,h1,-⟩:=mem_wlk.1 h
   exact o128 e h1
  ·intro hl
   let A:=((List.range s).map fun k=>itr (fin w) k 0).map (fin (w.take l))
   have hA:A.Nodup:=by
    rw [List.Nodup,List.pairwise_map]
    exact hd.imp fun h e=>h (fin_inj e)
   have hA2:∀ x∈A,x < s:=by
    intro x hx
    simp [A] at hx
    obtain ⟨k,hk,rfl⟩:=hx
    exact fin_lt (fun i hi=>hw i (List.mem_of_mem_take hi)) (hlt k)
   have hp:col w l+(if b then 0 else 1) < s:=by
    have:=hw _ (hcol l hl);split<;>(first | exact o45 this | exact o46 this)
   have:=full hA hA2 (by simp [A]) hp
   simp [A] at this
   obtain ⟨k,hk,e⟩:=this
   exact ⟨k,hk,mem_wlk.2 ⟨l,by exact o89,hl,by rw [e];rfl⟩⟩
noncomputable def sw (i:Nat) (at_:List Nat):List Nat:=at_.take i++[at_.getD (i+1) 0,at_.getD i 0]++at_.drop (i+2)
noncomputable def heds (s:Nat) (at_:List Nat):List Nat:=
 (List.range s).foldl (fun hd pl=>hd.map fun h=>if h=hd.getD (at_.getD pl 0) 0 then hd.getD pl 0 else h) (List.range s)
noncomputable def clo (s:Nat):List Nat->List Nat->List Nat
 | [],_=>[]
 | k::ks,at_=>if (heds s at_).getD k 0≠(heds s at_).getD (k+1) 0 then k::clo s ks (sw k at_) else clo s ks at_
theorem cloN {s:Nat} {a:List Nat}:clo s [] a=[]:=rfl
theorem cloC {s k:Nat} {ks a:List Nat}:clo s (k::ks) a=if (heds s a).getD k 0≠(heds s a).getD (k+1) 0 then k::clo s ks (sw k a) else clo s ks a:=rfl
noncomputable def swAll (at_:List Nat) (w:List Nat):List Nat:=w.foldl (fun a i=>sw i a) at_
theorem sw_len {i:Nat} {a:List Nat} (h:i+1 < a.length):(sw i a).length=a.length:=by simp [sw];exact o123 h
theorem sw_get {i p:Nat} {a:List Nat} (h:i+1 < a.length):(sw i a)[stp i p]?=a[p]?:=by
 unfold sw stp
 by_cases h1:p=i
 ·subst h1;simp
  rw [List.getElem?_append_right (by simp;exact o122)]
  simp [show min p a.length=p by exact o124 h,List.getElem?_eq_getElem (show p < a.length by exact o85 h)]
 ·rw [if_neg h1]
  by_cases h2:p=i+1
  ·subst h2;simp
   rw [List.getElem?_append_right (by simp;exact o127)]
   simp [show min i a.length=i by exact o124 h,List.getElem?_eq_getElem h]
  ·rw [if_neg h2]
   by_cases h3:p < i
   ·rw [List.append_assoc,List.getElem?_append_left (by simp;exact o129 h h3),List.getElem?_take,if_pos h3]
   ·rw [List.getElem?_append_right (by simp;exact o130 h1 h2 h3),List.getElem?_drop]
    congr 1;simp;exact o131 h h1 h2 h3
theorem swAll_get {s:Nat}:∀ {w:List Nat} {a:List Nat} {p:Nat},(∀ i∈w,i+1 < s)->a.length=s->(swAll a w)[fin w p]?=a[p]?
 | [],_,_,_,_=>rfl
 | i::w,a,p,h,hl=>by
  have hi:=h i (by simp)
  have:=swAll_get (w:=w) (a:=sw i a) (p:=stp i p) (fun j hj=>h j (by simp [hj])) (by rw [sw_len (by exact o115 hl hi)];exact hl)
  show (swAll (sw i a) w)[fin w (stp i p)]?=_
  rw [this];exact sw_get (by exact o115 hl hi)
noncomputable def perms:Nat->List (List Nat)
 | 1=>[[0]]
 | 2=>[[0,1],[1,0]]
 | 3=>[[0,1,2],[0,2,1],[1,0,2],[1,2,0],[2,0,1],[2,1,0]]
 | 4=>[[0,1,2,3],[0,1,3,2],[0,2,1,3],[0,2,3,1],[0,3,1,2],[0,3,2,1],[1,0,2,3],[1,0,3,2],[1,2,0,3],[1,2,3,0],[1,3,0,2],[1,3,2,0],[2,0,1,3],[2,0,3,1],[2,1,0,3],[2,1,3,0],[2,3,0,1],[2,3,1,0],[3,0,1,2],[3,0,2,1],[3,1,0,2],[3,1,2,0],[3,2,0,1],[3,2,1,0]]
 | _=>[]
noncomputable def ring (s:Nat) (a:List Nat):Bool:=
 decide (((List.range s).map fun k=>itr (fun p=>a.idxOf p) k 0).Nodup)&&(itr (fun p=>a.idxOf p) s 0==0)&&decide a.Nodup&&a.length==s
theorem perms_sw:∀ s,s < 5->∀ a∈perms s,∀ i,i+1 < s->sw i a∈perms s:=by
 intro s hs a ha i hi
 have:∀ s,s < 5->∀ a∈perms s,∀ i,i < 4->i+1 < s->sw i a∈perms s:=by decide +kernel
 exact this s hs a ha i (by exact o132 hs hi) hi
theorem perms_clo:∀ s,s < 5->∀ a∈perms s,ring s (swAll a (clo s (List.range (s-1)) a))=true:=by decide +kernel
theorem range_perms:∀ s,0 < s->s < 5->List.range s∈perms s:=by
 have:∀ s,s < 5->0 < s->List.range s∈perms s:=by decide +kernel
 exact fun s h1 h2=>this s h2 h1
theorem perms_all {s:Nat} (hs:s < 5):∀ {w a:List Nat},(∀ i∈w,i+1 < s)->a∈perms s->swAll a w∈perms s
 | [],_,_,h=>h
 | i::w,a,hw,h=>perms_all (w:=w) hs (fun j hj=>hw j (by simp [hj])) (perms_sw s hs a h i (hw i (by simp)))
theorem clo_lt {s:Nat}:∀ {ks a:List Nat},(∀ k∈ks,k+1 < s)->∀ i∈clo s ks a,i+1 < s
 | [],_,_,i,h=>by simp [cloN] at h
 | k::ks,a,hk,i,h=>by
  simp only [cloC] at h
  split at h
  ·rcases List.mem_cons.1 h with rfl | h
   ·exact hk _ (by simp)
   ·exact clo_lt (fun j hj=>hk j (by simp [hj])) i h
  ·exact clo_lt (fun j hj=>hk j (by simp [hj])) i h
theorem closed_rope {s:Nat} (h2:2<=s) (h5:s < 5) {w:List Nat} (hw:∀ i∈w,i+1 < s):
  Rope s (w++clo s (List.range (s-1)) (swAll (List.range s) w)) (rnd (w++clo s (List.range (s-1)) (swAll (List.range s) w)) s 0):=by
 have ha:=perms_all h5 hw (range_perms s (by exact o112 h2) h5)
 have hc:=perms_clo s h5 _ ha
 have hlt:=clo_lt (s:=s) (ks:=List.range (s-1)) (a:=swAll (List.range s) w) (by simp;intro k hk;exact o126 hk)
 generalize clo s (List.range (s-1)) (swAll (List.range s) w)=c at *
 have hw':∀ i∈w++c,i+1 < s:=by
  intro i hi;rcases List.mem_append.1 hi with h | h;exact hw i h;exact hlt i h
 have e:swAll (swAll (List.range s) w) c=swAll (List.range s) (w++c):=by simp [swAll]
 rw [e] at hc
 simp [ring] at hc
 obtain ⟨⟨⟨h1,h0⟩,hnd⟩,hl⟩:=hc
 have hf:∀ p,p < s->fin (w++c) p=(swAll (List.range s) (w++c)).idxOf p:=by
  intro p hp
  have:=swAll_get (w:=w++c) (a:=List.range s) (p:=p) hw' (by simp)
  rw [List.getElem?_range hp] at this
  obtain ⟨hx,e⟩:=List.getElem?_eq_some_iff.1 this
  have h:=hnd.idxOf_getElem _ hx
  rw [e] at h;exact h.symm
 have hit:∀ k,itr (fin (w++c)) k 0=itr (fun p=>(swAll (List.range s) (w++c)).idxOf p) k 0/\itr (fin (w++c)) k 0 < s:=by
  intro k
  induction k with
  | zero=>exact ⟨rfl,by simp [itr0];exact o112 h2⟩
  | succ k ih=>refine ⟨?_,fin_lt hw' ih.2⟩;simp only [itrS];rw [hf _ ih.2,ih.1]
 refine rope_of h2 hw' ?_ ?_
 ·have:((List.range s).map fun k=>itr (fin (w++c)) k 0)=(List.range s).map fun k=>itr (fun p=>(swAll (List.range s) (w++c)).idxOf p) k 0:=List.map_congr_left fun k _=>(hit k).1
  rw [this];exact h1
 ·rw [(hit s).1];exact h0
end Mine.Internal
end
section
namespace Mine.Internal
noncomputable def rv (q:Nat->Nat) (sg:Nat->Int) (x:Nat×Bool):Int:=((q x.1:Int)+1)*(if x.2 then-sg x.1 else sg x.1)
noncomputable def Sg (sg:Nat->Int):Prop:=∀ l,sg l=1\/sg l=-1
noncomputable def absI (i:Int):Int:=if i < 0 then -i else i
section
variable {q:Nat->Nat} {sg:Nat->Int} (hsg:Sg sg) {x y:Nat×Bool}
include hsg
theorem rv_cases:(rv q sg x=(q x.1:Int)+1/\(if x.2 then-sg x.1 else sg x.1)=1)\/(rv q sg x=-((q x.1:Int)+1)/\(if x.2 then-sg x.1 else sg x.1)=-1):=by
 unfold rv
 have:(if x.2 then-sg x.1 else sg x.1)=1\/(if x.2 then-sg x.1 else sg x.1)=-1:=by
  rcases hsg x.1 with h | h<;>cases x.2<;>simp [h]
 rcases this with h | h<;>rw [h]
 ·exact .inl ⟨Int.mul_one _,rfl⟩
 ·exact .inr ⟨by rw [Int.mul_neg,Int.mul_one],rfl⟩
theorem rv_abs:absI (rv q sg x)=(q x.1:Int)+1:=by
 unfold absI;rcases rv_cases hsg (q:=q) (x:=x) with ⟨h,-⟩ | ⟨h,-⟩<;>rw [h]<;>split<;>(first | exact o135 (by assumption) | exact o137 | exact o140 | exact o141 (by assumption))
theorem rv_ne:rv q sg x≠0:=by
 rcases rv_cases hsg (q:=q) (x:=x) with ⟨h,-⟩ | ⟨h,-⟩<;>rw [h]<;>(first | exact o133 | exact o134)
omit hsg in
theorem rv_neg (l:Nat) (b:Bool):-(rv q sg (l,b))=rv q sg (l,!b):=by
 unfold rv;cases b<;>simp [Int.mul_neg]
theorem rv_inj (h:rv q sg x=rv q sg y) (hq:q x.1=q y.1->x.1=y.1):x=y:=by
 have hy:=rv_abs hsg (q:=q) (x:=y)
 have hx:=rv_abs hsg (q:=q) (x:=x)
 rw [h,hy] at hx
 have h1:x.1=y.1:=hq (by exact o138 hx)
 have h2:x.2=y.2:=by
  have a:=rv_cases hsg (q:=q) (x:=x)
  have b:=rv_cases hsg (q:=q) (x:=y)
  rw [h,h1] at a
  have:(if x.2 then-sg y.1 else sg y.1)=(if y.2 then-sg y.1 else sg y.1):=by exact o142 a b
  rcases hsg y.1 with e | e<;>rw [e] at this<;>cases hx2:x.2<;>cases hy2:y.2<;>simp [hx2,hy2] at this ⊢
 exact Prod.ext h1 h2
theorem rv_turn:(if rv q sg x < 0 then-sg x.1 else sg x.1)=if x.2 then -1 else 1:=by
 rcases rv_cases hsg (q:=q) (x:=x) with ⟨h,h2⟩ | ⟨h,h2⟩<;>rw [h]
 ·rw [if_neg (by exact o136)];rcases hsg x.1 with e | e<;>rw [e] at h2 ⊢<;>cases hx:x.2<;>simp [hx] at h2 ⊢
 ·rw [if_pos (by exact o139)];rcases hsg x.1 with e | e<;>rw [e] at h2 ⊢<;>cases hx:x.2<;>simp [hx] at h2 ⊢
end
noncomputable def ordG (o:List Nat) (R:List (Nat×Bool)):List Nat:=R.foldl (fun o x=>if x.1∈o then o else o++[x.1]) o
noncomputable def ordL (R:List (Nat×Bool)):List Nat:=ordG [] R
theorem ordG_app (o:List Nat) (R R':List (Nat×Bool)):ordG o (R++R')=ordG (ordG o R) R':=by simp [ordG]
theorem mem_ordG {l:Nat}:∀ {R:List (Nat×Bool)} {o:List Nat},l∈ordG o R↔l∈o\/∃ b,(l,b)∈R
 | [],o=>by simp [ordG]
 | x::R,o=>by
  show l∈ordG (if x.1∈o then o else o++[x.1]) R↔_
  rw [mem_ordG]
  constructor
  ·rintro (h | ⟨b,h⟩)
   ·split at h
    ·exact .inl h
    ·simp at h;rcases h with h | h
     ·exact .inl h
     ·exact .inr ⟨x.2,by simp [h]⟩
   ·exact .inr ⟨b,by simp [h]⟩
  ·rintro (h | ⟨b,h⟩)
   ·left;split<;>simp [h]
   ·simp at h;rcases h with h | h
    ·left;subst h;split<;>simp_all
    ·exact .inr ⟨b,h⟩
theorem nd_ordG:∀ {R:List (Nat×Bool)} {o:List Nat},o.Nodup->(ordG o R).Nodup
 | [],_,h=>h
 | x::R,o,h=>by
  show (ordG (if x.1∈o then o else o++[x.1]) R).Nodup
  split
  ·exact nd_ordG h
  ·rename_i hn
   refine nd_ordG ?_
   rw [List.nodup_append];refine ⟨h,by simp,?_⟩
   intro a ha b hb;simp at hb;subst hb;rintro rfl;exact hn ha
theorem nd_ordL {R:List (Nat×Bool)}:(ordL R).Nodup:=nd_ordG (by simp)
theorem mem_ordL {R:List (Nat×Bool)} {l:Nat}:l∈ordL R↔∃ b,(l,b)∈R:=by unfold ordL;rw [mem_ordG];simp
noncomputable def qL (R:List (Nat×Bool)) (l:Nat):Nat:=(ordL R).idxOf l
theorem idxOf_lt_of_mem {o:List Nat} {l:Nat} (h:l∈o):o.idxOf l < o.length:=List.idxOf_lt_length_iff.2 h
theorem qL_inj {R:List (Nat×Bool)} {l l':Nat} (h:l∈ordL R) (h':l'∈ordL R) (e:qL R l=qL R l'):l=l':=by
 have a:(ordL R)[qL R l]?=some l:=by unfold qL;rw [List.getElem?_eq_getElem (idxOf_lt_of_mem h)];exact congrArg some (List.getElem_idxOf _)
 have b:(ordL R)[qL R l']?=some l':=by unfold qL;rw [List.getElem?_eq_getElem (idxOf_lt_of_mem h')];exact congrArg some (List.getElem_idxOf _)
 rw [e,b] at a;exact (Option.some.inj a).symm
noncomputable def dps (R:List (Nat×Bool)) (sg:Nat->Int):List Int:=R.map (rv (qL R) sg)
noncomputable def dts (R:List (Nat×Bool)) (sg:Nat->Int):List Int:=(ordL R).map sg
theorem idxOf?_map {α:Type} [BEq α] [LawfulBEq α] {f:α->Int} {x:α} {M:List Int}:∀ {R:List α},x∈R->(∀ y∈R,f y=f x->y=x)->(R.map f++M).idxOf? (f x)=some (R.idxOf x)
 | [],h,_=>by simp at h
 | a::R,h,hi=>by
  by_cases e:a=x
  ·subst e;simp [List.idxOf?_cons]
  ·have hne:f a≠f x:=fun e'=>e (hi a (by simp) e')
   have hx:x∈R:=by simpa [show x≠a from fun h=>e h.symm] using h
   have:=idxOf?_map (f:=f) (M:=M) hx (fun y hy=>hi y (by simp [hy]))
   rw [List.map_cons,List.cons_append,List.idxOf?_cons]
   have e':(a==x)=false:=by simpa using e
   simp [hne,this,List.idxOf_cons,e']
end Mine.Internal
end
section
namespace Mine.Internal
noncomputable def ordS (o:List Int) (i:Int):List Int:=if absI i∈o then o else o++[absI i]
noncomputable def up1 (n:Nat):List Int:=(List.range n).map fun (k:Nat)=>(k:Int)+1
theorem mem_up1 {n:Nat} {i:Int}:i∈up1 n↔0 < i/\i<=n:=by
 unfold up1;rw [List.mem_map]
 constructor
 ·rintro ⟨k,hk,rfl⟩;have:=List.mem_range.1 hk;exact u66 this
 ·intro h;exact ⟨(i-1).toNat,List.mem_range.2 (by exact v42 h.1 h.2),by exact v43 h.1⟩
theorem up1_succ (n:Nat):up1 (n+1)=up1 n++[(n:Int)+1]:=by unfold up1;rw [List.range_succ,List.map_append];rfl
theorem up1_len (n:Nat):(up1 n).length=n:=by unfold up1;rw [List.length_map,List.length_range]
theorem up1_inj {n m:Nat} (h:up1 n=up1 m):n=m:=by have:=congrArg List.length h;rwa [up1_len,up1_len] at this
theorem absI_eq {i j:Int} (h:absI i=absI j):j=i\/j=-i:=by unfold absI at h;split at h<;>split at h<;>(first | exact u72 h | exact u74 h | exact u75 h | exact u76 h)
theorem absI_neg (i:Int):absI (-i)=absI i:=by unfold absI;split<;>split<;>(first | exact u68 (by assumption) (by assumption) | exact u70 | exact u71 | exact u73 (by assumption) (by assumption))
noncomputable def apI (n m:Nat):List Int->List Int->Nat->Bool
 | [],_,met=>decide (m=2*n)&&decide (met=n)
 | i::r,seen,met=>if i=0\/(n:Int) < absI i\/i∈seen then false else if -i∈seen then apI n m r (seen++[i]) met
  else if absI i=(met:Int)+1 then apI n m r (seen++[i]) (met+1) else false
theorem apN {n m met:Nat} {seen:List Int}:apI n m [] seen met=(decide (m=2*n)&&decide (met=n)):=rfl
theorem apC {n m met:Nat} {i:Int} {r seen:List Int}:apI n m (i::r) seen met=if i=0\/(n:Int) < absI i\/i∈seen then false else if -i∈seen then apI n m r (seen++[i]) met
  else if absI i=(met:Int)+1 then apI n m r (seen++[i]) (met+1) else false:=rfl
theorem ordS_ext:∀ (is o:List Int),∃ e,is.foldl ordS o=o++e
 | [],o=>⟨[],(List.append_nil o).symm⟩
 | i::is,o=>by
  obtain ⟨e,h⟩:=ordS_ext is (ordS o i)
  rw [List.foldl_cons,h]
  unfold ordS
  split
  ·exact ⟨e,rfl⟩
  ·exact ⟨absI i::e,by rw [List.append_assoc];rfl⟩
theorem apI_ok {n m:Nat} (hm:m=2*n):∀ {is seen:List Int} {met:Nat},(∀ k:Int,k∈up1 met↔∃ j∈seen,absI j=k) ->
  (seen++is).Nodup->(∀ i∈is,i≠0/\absI i<=n)->is.foldl ordS (up1 met)=up1 n->apI n m is seen met=true
 | [],seen,met,_,_,_,h=>by rw [apN,decide_eq_true hm,decide_eq_true (up1_inj h)];rfl
 | i::r,seen,met,hk,hn,ho,h=>by
  have ap:seen++i::r=seen++[i]++r:=by rw [List.append_assoc];rfl
  have hi:=ho i List.mem_cons_self
  have his:i∉seen:=fun h=>(List.nodup_append.1 hn).2.2 i h i List.mem_cons_self rfl
  rw [ap] at hn
  have ho':∀ j∈r,j≠0/\absI j<=n:=fun j hj=>ho j (List.mem_cons_of_mem _ hj)
  rw [List.foldl_cons] at h
  rw [apC,if_neg fun q=>q.elim hi.1 fun q=>q.elim (Int.not_lt.2 hi.2) his]
  by_cases c2:-i∈seen
  ·have hm':absI i∈up1 met:=(hk _).2 ⟨-i,c2,absI_neg i⟩
   rw [show ordS (up1 met) i=up1 met from if_pos hm'] at h
   rw [if_pos c2]
   refine apI_ok hm (fun k=>(hk k).trans ⟨fun ⟨j,hj,e⟩=>⟨j,List.mem_append_left _ hj,e⟩,fun ⟨j,hj,e⟩=>?_⟩) hn ho' h
   rcases List.mem_append.1 hj with h | h
   ·exact ⟨j,h,e⟩
   ·rw [List.mem_singleton.1 h] at e;exact ⟨-i,c2,(absI_neg i).trans e⟩
  ·have hm':absI i∉up1 met:=fun h=>by
    obtain ⟨j,hj,e⟩:=(hk _).1 h
    rcases absI_eq e with h | h
    ·exact his (h ▸ hj)
    ·exact c2 ((show -i=j by exact u78 h) ▸ hj)
   rw [show ordS (up1 met) i=up1 met++[absI i] from if_neg hm'] at h
   have c3:absI i=(met:Int)+1:=by
    obtain ⟨e,he⟩:=ordS_ext r (up1 met++[absI i])
    rw [he] at h
    have h4:(up1 n)[met]?=some (absI i):=by
     rw [<-h,List.append_assoc,List.getElem?_append_right (by rw [up1_len];exact Nat.le_refl _),up1_len,Nat.sub_self];rfl
    unfold up1 at h4
    rw [List.getElem?_map] at h4
    obtain ⟨k,hk',e'⟩:=Option.map_eq_some_iff.1 h4
    have:=(List.getElem?_eq_some_iff.1 hk').2
    rw [List.getElem_range] at this
    rw [<-e',<-this]
   rw [c3,<-up1_succ] at h
   rw [if_neg c2,if_pos c3]
   refine apI_ok hm (fun k=>?_) hn ho' h
   rw [up1_succ,List.mem_append,hk k,List.mem_singleton]
   refine ⟨fun q=>q.elim (fun ⟨j,hj,e⟩=>⟨j,List.mem_append_left _ hj,e⟩) fun e=>⟨i,List.mem_append_right _ (List.mem_singleton.2 rfl),c3.trans e.symm⟩,fun ⟨j,hj,e⟩=>(List.mem_append.1 hj).imp (fun h=>⟨j,h,e⟩) fun h=>?_⟩
   rw [List.mem_singleton.1 h] at e;exact e.symm.trans c3
structure Good (n:Nat) (is:List Int):Prop where
 nd:is.Nodup
 ok:∀ i∈is,i≠0/\absI i<=n
 ord:is.foldl ordS []=up1 n
 len:is.length=2*n
theorem apI_good {n:Nat} {is:List Int} (h:Good n is):apI n is.length is [] 0=true:=
 apI_ok h.len (fun k=>⟨fun h=>absurd h List.not_mem_nil,fun ⟨_,h,_⟩=>absurd h List.not_mem_nil⟩) h.nd h.ok h.ord
noncomputable def pmL (n:Nat):List Int:=up1 n++(up1 n).map fun i=>-i
theorem pmL_len (n:Nat):(pmL n).length=2*n:=by unfold pmL;rw [List.length_append,List.length_map,up1_len];exact u79
theorem mem_pmL {n:Nat} {i:Int} (h:i≠0) (h2:absI i<=n):i∈pmL n:=by
 unfold pmL;rw [List.mem_append]
 unfold absI at h2
 by_cases q:i < 0
 ·rw [if_pos q] at h2;exact .inr (List.mem_map.2 ⟨-i,mem_up1.2 (by exact u80 h2 q),by exact u70⟩)
 ·rw [if_neg q] at h2;exact .inl (mem_up1.2 (by exact u83 h h2 q))
theorem Good.mem {n:Nat} {is:List Int} (g:Good n is) {i:Int} (h:i≠0) (h2:absI i<=n):i∈is:=
 Classical.byContradiction fun q=>by
  have:=nodup_le (l:=i::is) (m:=pmL n) (List.nodup_cons.2 ⟨q,g.nd⟩) fun j hj=>(List.mem_cons.1 hj).elim (fun e=>e ▸ mem_pmL h h2) fun hj=>mem_pmL (g.ok j hj).1 (g.ok j hj).2
  rw [List.length_cons,pmL_len,g.len] at this
  exact (u81 this).elim
end Mine.Internal
end
section
namespace Mine.Internal
noncomputable def ee (p g:Nat):Nat:=if g<=p then g else g-1
theorem ee_gp {p j:Nat}:ee p (gp p j)=j:=by unfold ee gp;split<;>split<;>(first | exact xp77 | exact xp79 (by assumption) (by assumption) | exact xp81 (by assumption) (by assumption) | exact xp86)
theorem ee_gp1 {p j:Nat}:ee p (gp p j+1)=j+1:=by unfold ee gp;split<;>split<;>(first | exact xp78 | exact xp80 (by assumption) (by assumption) | exact xp82 (by assumption) (by assumption) | exact xp84)
section
variable {s:Nat} {w:List Nat} {R:List Sd} {p:Nat->Nat} {sg:Nat->Int} {q:Int->Int}
theorem rope_le {X Y:List Int} (o:Rope s w R) (hXY:X++Y=R.map (rv p sg)) (hq:∀ x∈R,q (rv p sg x)=if x.2 then -1 else 1) (hr:Row (X++0::Y) q) {c:Nat} (h:Fc (X++0::Y) q c):w.length+1<=c:=by
 have hl:X.length+Y.length=R.length:=by have:=congrArg List.length hXY;rwa [List.length_append,List.length_map] at this
 have hL:(X++0::Y).length=R.length+1:=by rw [List.length_append,List.length_cons];exact xp87 hl
 have at1:∀ {j:Nat} {x:Sd},R[j]?=some x->(X++0::Y)[gp X.length j]?=some (rv p sg x):=fun {j x} e=>by
  have:=ins_at (A:=X) (B:=Y) (E:=[]) (z:=0) j (rv p sg x) (by rw [hXY,List.getElem?_map,e];rfl)
  rwa [List.append_nil] at this
 have at0:(X++0::Y)[X.length]?=some 0:=by rw [List.getElem?_append_right (Nat.le_refl _),Nat.sub_self];rfl
 have back:∀ {g:Nat} {v:Int},(X++0::Y)[g]?=some v->v≠0->∃ j l b,g=gp X.length j/\R[j]?=some (l,b)/\v=rv p sg (l,b):=fun {g v} e hv=>by
  have hg:=(List.getElem?_eq_some_iff.1 e).1
  have hne:g≠X.length:=fun q=>hv (by rw [q,at0] at e;exact (Option.some.inj e).symm)
  have hj:ee X.length g < R.length:=by unfold ee;split<;>(first | exact xp88 hl hne (by assumption) | exact xp89 hl hL hg hne)
  have e1:gp X.length (ee X.length g)=g:=by unfold gp ee;split<;>split<;>(first | exact xp77 | exact xp90 hne (by assumption) (by assumption) | exact xp91 (by assumption) (by assumption) | exact xp92 (by assumption))
  have e2:=List.getElem?_eq_getElem hj
  refine ⟨ee X.length g,R[ee X.length g].1,R[ee X.length g].2,e1.symm,e2,?_⟩
  have:=at1 e2
  rw [e1,e] at this;exact Option.some.inj this
 have ix:∀ {l:Nat} {b:Bool},(l,b)∈R->(X++0::Y).idxOf (-(rv p sg (l,b)))=gp X.length (R.idxOf (l,!b)):=fun {l b} h=>by
  rw [rv_neg]
  exact idx_is hr.nd (at1 (o.at ((o.mem l b).1 h) (!b)))
 have inv:∀ x∈rsd (X++0::Y),lam s w R (ee X.length (rnx (X++0::Y) q x).1,(rnx (X++0::Y) q x).2)=lam s w R (ee X.length x.1,x.2):=by
  rintro ⟨g,b⟩ hx
  have hx:=mem_rsd.1 hx
  cases b with
  | true=>
   cases e:(X++0::Y)[g]? with
   | none=>
    have hg:=List.getElem?_eq_none_iff.1 e
    rw [rn_te e]
    have:R.length<=ee X.length g:=by unfold ee;split<;>(first | exact xp93 hL hg | exact xp94 hL hg)
    show lam s w R (ee X.length g,false)=lam s w R (ee X.length g,true)
    rw [lam_out this,lam_out this];exact lam_cut
   | some v=>
    rw [rn_t e]
    by_cases hv:v=0
    ·rw [if_pos hv]
     have hg:g=X.length:=by
      have h1:=idx_is hr.nd e
      rw [hv,idx_is hr.nd at0] at h1;exact h1.symm
     show lam s w R (ee X.length (g+1),true)=lam s w R (ee X.length g,true)
     rw [show ee X.length (g+1)=ee X.length g by unfold ee;split<;>split<;>(first | exact xp95 hg (by assumption) | exact xp96 hg (by assumption) | exact xp86 | exact xp97 hg (by assumption))]
    ·rw [if_neg hv]
     obtain ⟨j,l,b,rfl,e2,rfl⟩:=back e hv
     have hm:=List.mem_of_getElem? e2
     rw [ix hm]
     show _=lam s w R (ee X.length (gp X.length j),true)
     rw [ee_gp,lam_fw o e2]
     cases b with
     | true=>rw [show q (rv p sg (l,true))=-1 from hq _ hm,if_neg (by decide),if_pos rfl];show lam s w R (ee X.length (gp _ _),false)=_;rw [ee_gp]
     | false=>rw [show q (rv p sg (l,false))=1 from hq _ hm,if_pos rfl,if_neg (by decide)];show lam s w R (ee X.length (gp _ _+1),true)=_;rw [ee_gp1]
  | false=>
   cases g with
   | zero=>exact lam_cut.symm
   | succ g=>
    have hg:g < (X++0::Y).length:=Nat.lt_of_succ_lt_succ hx
    have e:=List.getElem?_eq_getElem hg
    generalize (X++0::Y)[g]=v at e
    rw [rn_f e]
    by_cases hv:v=0
    ·rw [if_pos hv]
     have hg:g=X.length:=by
      have h1:=idx_is hr.nd e
      rw [hv,idx_is hr.nd at0] at h1;exact h1.symm
     show lam s w R (ee X.length g,false)=lam s w R (ee X.length (g+1),false)
     rw [show ee X.length (g+1)=ee X.length g by unfold ee;split<;>split<;>(first | exact xp95 hg (by assumption) | exact xp96 hg (by assumption) | exact xp86 | exact xp97 hg (by assumption))]
    ·rw [if_neg hv]
     obtain ⟨j,l,b,rfl,e2,rfl⟩:=back e hv
     have hm:=List.mem_of_getElem? e2
     rw [ix hm]
     show _=lam s w R (ee X.length (gp X.length j+1),false)
     rw [ee_gp1,lam_bw o e2]
     cases b with
     | true=>rw [show q (rv p sg (l,true))=-1 from hq _ hm,if_neg (by decide),if_pos rfl];show lam s w R (ee X.length (gp _ _+1),true)=_;rw [ee_gp1]
     | false=>rw [show q (rv p sg (l,false))=1 from hq _ hm,if_pos rfl,if_neg (by decide)];show lam s w R (ee X.length (gp _ _),false)=_;rw [ee_gp]
 have k:=fc_le hr h (lab:=fun x=>lam s w R (ee X.length x.1,x.2)) inv (D:=(List.range (w.length+2)).erase (cl s w R (0,false))) (List.nodup_range.erase _) fun v hv=>by
  obtain ⟨hv1,hv2⟩:=(List.Nodup.mem_erase_iff List.nodup_range).1 hv
  obtain ⟨⟨g,b⟩,hx,e⟩:=lam_all o (List.mem_range.1 hv2) hv1
  have hx:g < R.length:=hx
  refine ⟨(gp X.length g,b),mem_rsd.2 ?_,?_⟩
  ·show gp X.length g < _;unfold gp;split<;>(first | exact xp98 hL hx | exact xp99 hL hx)
  ·show lam s w R (ee X.length (gp X.length g),b)=_;rw [ee_gp];exact e
 rw [List.length_erase,List.length_range] at k
 split at k<;>(first | exact xp100 k | exact xp101 k)
noncomputable def qU (us:List Int) (v:Int):Int:=if v < 0 then -(us.getD (absI v-1).toNat 0) else us.getD (absI v-1).toNat 0
theorem qU_neg {us:List Int} {v:Int} (h:v≠0):qU us (-v)=- qU us v:=by
 unfold qU;rw [absI_neg]
 by_cases q:v < 0
 ·rw [if_pos q,if_neg (by exact xp83 q),Int.neg_neg]
 ·rw [if_neg q,if_pos (by exact xp85 h q)]
structure DOk (ps us:List Int):Prop where
 good:Good us.length ps
 tn:∀ t∈us,t=1\/t=-1
 n10:us.length<=10
theorem DOk.row {ps us:List Int} (d:DOk ps us):Row (ps++[0]) (qU us):=by
 have z:∀ v∈ps,v≠0:=fun v hv=>(d.good.ok v hv).1
 have m:∀ v∈ps++[0],v≠0->v∈ps:=fun v hv h=>(List.mem_append.1 hv).resolve_right fun q=>h (List.mem_singleton.1 q)
 refine ⟨List.nodup_append.2 ⟨d.good.nd,List.nodup_cons.2 ⟨List.not_mem_nil,List.nodup_nil⟩,fun a ha b hb e=>z a ha (e.trans (List.mem_singleton.1 hb))⟩,fun v hv=>?_,fun v hv h=>?_,fun v _ h=>qU_neg h⟩
 ·by_cases h:v=0
  ·subst h;exact hv
  ·exact List.mem_append_left _ (d.good.mem (by exact xp102 h) (by rw [absI_neg];exact (d.good.ok v (m v hv h)).2))
 ·have h1:=(d.good.ok v (m v hv h)).2
  have h2:0 < absI v:=by unfold absI;split<;>(first | exact xp103 (by assumption) | exact xp104 h (by assumption))
  have h3:(absI v-1).toNat < us.length:=tn3 h2 h1
  have h4:us.getD (absI v-1).toNat 0=us[(absI v-1).toNat]:=by rw [List.getD_eq_getElem?_getD,List.getElem?_eq_getElem h3];rfl
  have h5:=d.tn _ (List.getElem_mem h3)
  unfold qU;rw [h4]
  generalize us[(absI v-1).toNat]=t at h5
  rcases h5 with rfl | rfl<;>split<;>decide
theorem q_at (o:Rope s w R) {l:Nat} (hl:l < w.length):(dts R sg)[qL R l]?=some (sg l):=by
 have h:l∈ordL R:=mem_ordL.2 ⟨true,(o.mem l true).2 hl⟩
 unfold dts qL
 rw [List.getElem?_map,List.getElem?_eq_getElem (idxOf_lt_of_mem h),List.getElem_idxOf];rfl
theorem qU_rv (o:Rope s w R) (hsg:Sg sg):∀ x∈R,qU (dts R sg) (rv (qL R) sg x)=if x.2 then -1 else 1:=by
 rintro ⟨l,b⟩ hx
 have hl:=(o.mem l b).1 hx
 unfold qU
 rw [rv_abs hsg,show ((qL R l:Int)+1-1).toNat=qL R l from tn1,List.getD_eq_getElem?_getD,q_at o hl]
 exact rv_turn hsg (x:=(l,b))
theorem rope_pl (o:Rope s w R) (hsg:Sg sg) (d:DOk (dps R sg) (dts R sg)):Pl (dps R sg++[0]) (qU (dts R sg)):=by
 refine ⟨d.row,List.mem_append_right _ List.mem_cons_self,fun A B e c hc=>?_⟩
 have hrow:Row (B++A) (qU (dts R sg)):=by have:=d.row;rw [e] at this;exact this.rot
 have hz:(0:Int)∈B++A:=by
  have:(0:Int)∈A++B:=e ▸ List.mem_append_right _ List.mem_cons_self
  rw [List.mem_append] at this ⊢;exact this.symm
 have hg:=genus _ (Nat.le_refl _) hrow hc
 have hl:(B++A).length=2*w.length+1:=by
  have:=congrArg List.length e
  rw [List.length_append,List.length_append] at this
  rw [List.length_append,Nat.add_comm,<-this]
  unfold dps;rw [List.length_map,rope_len o];rfl
 have hl':(dps R sg++[0]).length=2*w.length+1:=by unfold dps;rw [List.length_append,List.length_map,rope_len o];rfl
 rw [if_pos hz,hl] at hg
 have key:w.length+1<=c:=by
  rcases B.eq_nil_or_concat with h | ⟨B,v,h⟩
  ·subst h
   rw [List.append_nil] at e
   rw [List.nil_append,<-e] at hc
   exact rope_le o (p:=qL R) (X:=dps R sg) (Y:=[]) (List.append_nil _) (qU_rv o hsg) d.row hc
  ·rw [List.concat_eq_append] at h
   subst h
   rw [<-List.append_assoc] at e
   obtain ⟨e1,e2⟩:=List.append_inj' e rfl
   have:v=0:=(List.cons.inj e2).1.symm
   subst this
   have hk:A.length<=R.length:=by
    have:=congrArg List.length e1
    unfold dps at this;rw [List.length_map,List.length_append] at this;exact xp105 this
   have o':=o.rot A.length hk
   have e3:B++A=(R.drop A.length++R.take A.length).map (rv (qL R) sg):=by
    rw [List.map_append,List.map_drop,List.map_take]
    show B++A=(dps R sg).drop A.length++(dps R sg).take A.length
    rw [e1,List.drop_left,List.take_left]
   rw [List.append_assoc] at hc hrow
   exact rope_le o' (p:=qL R) (X:=B) (Y:=A) e3 (fun x hx=>qU_rv o hsg x (by
    rw [<-List.take_append_drop A.length R];rw [List.mem_append] at hx ⊢;exact hx.symm)) hrow hc
 rw [hl'];exact xp106 hg key
end
end Mine.Internal
end
section
namespace Mine.Internal
section
variable {q q':Int->Int} {f:Int->Int}
theorem Pl.rot {A B:List Int} (p:Pl (A++B) q):Pl (B++A) q:=by
 refine ⟨p.row.rot,List.mem_append.2 (List.mem_append.1 p.z).symm,fun C D e c hc=>?_⟩
 have hl:(B++A).length=(A++B).length:=by rw [List.length_append,List.length_append,Nat.add_comm]
 rw [hl]
 rcases List.append_eq_append_iff.1 e with ⟨E,h1,h2⟩ | ⟨E,h1,h2⟩
 ·subst h1;subst h2
  exact p.cut E (D++B) (by rw [List.append_assoc]) c (by rw [List.append_assoc];exact hc)
 ·subst h1;subst h2
  exact p.cut (A++C) E (by rw [List.append_assoc]) c (by rw [List.append_assoc] at hc;exact hc)
theorem Row.map {L:List Int} (o:Row L q) (f0:∀ v∈L,f v=0↔v=0) (fn:∀ v∈L,f (-v)=-f v) (fi:∀ u∈L,∀ v∈L,f u=f v->u=v) (fq:∀ v∈L,v≠0->q' (f v)=q v):Row (L.map f) q':=by
 refine ⟨List.pairwise_map.2 (o.nd.imp_of_mem fun {a b} ha hb hab e=>hab (fi a ha b hb e)),fun v hv=>?_,fun v hv h0=>?_,fun v hv h0=>?_⟩<;>obtain ⟨u,hu,rfl⟩:=List.mem_map.1 hv
 ·exact List.mem_map.2 ⟨-u,o.neg u hu,fn u hu⟩
 ·have h0:u≠0:=fun h=>h0 ((f0 u hu).2 h)
  rw [fq u hu h0];exact o.q1 u hu h0
 ·have h0:u≠0:=fun h=>h0 ((f0 u hu).2 h)
  rw [<-fn u hu,fq (-u) (o.neg u hu) (by exact xp102 h0),fq u hu h0];exact o.qn u hu h0
theorem Pl.map {Z:List Int} (p:Pl Z q) (f0:∀ v∈Z,f v=0↔v=0) (fn:∀ v∈Z,f (-v)=-f v) (fi:∀ u∈Z,∀ v∈Z,f u=f v->u=v) (fq:∀ v∈Z,v≠0->q' (f v)=q v):Pl (Z.map f) q':=by
 refine ⟨p.row.map f0 fn fi fq,List.mem_map.2 ⟨0,p.z,(f0 0 p.z).2 rfl⟩,fun A B e c hc=>?_⟩
 obtain ⟨A',B',e',rfl,rfl⟩:=List.map_eq_append_iff.1 e
 have m:∀ v∈B'++A',v∈Z:=fun v hv=>e' ▸ List.mem_append.2 (List.mem_append.1 hv).symm
 have o':Row (B'++A') q:=by have:=p.row;rw [e'] at this;exact this.rot
 have e2:=rnx_map o' (fun v hv=>f0 v (m v hv)) (fun v hv=>fn v (m v hv)) (fun u hu v hv=>fi u (m u hu) v (m v hv)) (fun v hv=>fq v (m v hv))
 have e3:rsd ((B'++A').map f)=rsd (B'++A'):=by unfold rsd;rw [List.length_map]
 rw [List.length_map]
 refine p.cut A' B' e' c ?_
 rw [<-List.map_append] at hc
 unfold Fc at hc ⊢
 rw [e2,e3] at hc;exact hc
end
structure FDr (ps us:List Int):Prop where
 ok:DOk ps us
 pl:Pl (ps++[0]) (qU us)
theorem absI_pos {v:Int} (h:v≠0):0 < absI v:=by unfold absI;split<;>(first | exact xp103 (by assumption) | exact xp104 h (by assumption))
theorem absI_or (v:Int):absI v=v\/absI v=-v:=by unfold absI;split<;>simp
section
variable {ps us:List Int}
theorem FDr.cnt (h:FDr ps us) {c:Nat} (hc:Fc (ps++[0]) (qU us) c):c=us.length+1:=by
 have:=h.pl.cut (ps++[0]) [] (List.append_nil _).symm c hc
 rw [List.length_append,h.ok.good.len,List.length_singleton] at this;exact xp108 this
noncomputable def flp (S:Int->Bool) (v:Int):Int:=if S (absI v) then -v else v
noncomputable def flpT (S:Int->Bool) (us:List Int):List Int:=(List.range us.length).map fun (i:Nat)=>if S ((i:Int)+1) then -(us.getD i 0) else us.getD i 0
theorem flp_abs {S:Int->Bool} (v:Int):absI (flp S v)=absI v:=by unfold flp;split;exact absI_neg v;rfl
theorem flp_neg {S:Int->Bool} (v:Int):flp S (-v)=-flp S v:=by unfold flp;rw [absI_neg];split<;>rfl
theorem flp_0 {S:Int->Bool} (v:Int):flp S v=0↔v=0:=by unfold flp;split;exact Int.neg_eq_zero;exact Iff.rfl
theorem flp_inj {S:Int->Bool} (u v:Int) (h:flp S u=flp S v):u=v:=by
 have h1:=congrArg absI h
 rw [flp_abs,flp_abs] at h1
 unfold flp at h;rw [h1] at h;split at h<;>(first | exact xp75 h | exact xp107 h)
theorem ordS_flp {S:Int->Bool}:∀ (l o:List Int),(l.map (flp S)).foldl ordS o=l.foldl ordS o
 | [],_=>rfl
 | v::l,o=>by
  rw [List.map_cons,List.foldl_cons,List.foldl_cons,show ordS o (flp S v)=ordS o v by unfold ordS;rw [flp_abs]]
  exact ordS_flp l _
theorem flpT_len {S:Int->Bool}:(flpT S us).length=us.length:=by unfold flpT;rw [List.length_map,List.length_range]
theorem flpT_at {S:Int->Bool} {i:Nat} (h:i < us.length):(flpT S us).getD i 0=if S ((i:Int)+1) then -(us.getD i 0) else us.getD i 0:=by
 unfold flpT;rw [List.getD_eq_getElem?_getD,List.getElem?_map,List.getElem?_range h];rfl
theorem FDr.flip (h:FDr ps us) (S:Int->Bool):FDr (ps.map (flp S)) (flpT S us):=by
 have g:=h.ok.good
 refine ⟨⟨⟨?_,fun i hi=>?_,?_,?_⟩,fun t ht=>?_,by rw [flpT_len];exact h.ok.n10⟩,?_⟩
 ·exact List.pairwise_map.2 (g.nd.imp fun hab e=>hab (flp_inj _ _ e))
 ·obtain ⟨v,hv,rfl⟩:=List.mem_map.1 hi
  rw [flp_abs,flpT_len];exact ⟨fun q=>(g.ok v hv).1 ((flp_0 v).1 q),(g.ok v hv).2⟩
 ·rw [ordS_flp,flpT_len];exact g.ord
 ·rw [List.length_map,flpT_len];exact g.len
 ·obtain ⟨i,hi,rfl⟩:=List.mem_map.1 ht
  have hi:=List.mem_range.1 hi
  have:=h.ok.tn (us.getD i 0) (by rw [List.getD_eq_getElem?_getD,List.getElem?_eq_getElem hi];exact List.getElem_mem hi)
  split<;>(first | exact xp115 this | exact xp118 this)
 ·have e:ps.map (flp S)++[0]=(ps++[0]).map (flp S):=by rw [List.map_append];congr 1;rw [List.map_cons,(flp_0 0).2 rfl];rfl
  rw [e]
  refine h.pl.map (fun v _=>flp_0 v) (fun v _=>flp_neg v) (fun u _ v _=>flp_inj u v) fun v hv h0=>?_
  have h1:=(g.ok v ((List.mem_append.1 hv).resolve_right fun q=>h0 (List.mem_singleton.1 q))).2
  have h2:=absI_pos h0
  unfold qU
  rw [flp_abs,flpT_at (tn3 h2 h1),show (((absI v-1).toNat:Nat):Int)+1=absI v from tn4 h2]
  unfold flp
  generalize us.getD (absI v-1).toNat 0=t
  split
  ·by_cases q:v < 0
   ·rw [if_pos q,if_neg (by exact xp83 q)]
   ·rw [if_neg q,if_pos (by exact xp85 h0 q),Int.neg_neg]
  ·rfl
noncomputable def rnm (o:List Int) (v:Int):Int:=if 0 < v then (o.idxOf (absI v):Int)+1 else -((o.idxOf (absI v):Int)+1)
noncomputable def rnT (us o:List Int):List Int:=o.map fun a=>us.getD (a-1).toNat 0
theorem mem_ordS {a:Int}:∀ {l o:List Int},a∈l.foldl ordS o↔a∈o\/∃ v∈l,absI v=a
 | [],o=>by simp
 | v::l,o=>by
  rw [List.foldl_cons,mem_ordS]
  unfold ordS
  constructor
  ·rintro (h | ⟨w,hw,e⟩)
   ·split at h
    ·exact .inl h
    ·rcases List.mem_append.1 h with h | h
     ·exact .inl h
     ·exact .inr ⟨v,List.mem_cons_self,(List.mem_singleton.1 h).symm⟩
   ·exact .inr ⟨w,List.mem_cons_of_mem _ hw,e⟩
  ·rintro (h | ⟨w,hw,e⟩)
   ·left;split
    ·exact h
    ·exact List.mem_append_left _ h
   ·rcases List.mem_cons.1 hw with rfl | hw
    ·left;subst e;split
     ·assumption
     ·exact List.mem_append_right _ List.mem_cons_self
    ·exact .inr ⟨w,hw,e⟩
theorem nd_ordS:∀ {l o:List Int},o.Nodup->(l.foldl ordS o).Nodup
 | [],_,h=>h
 | v::l,o,h=>by
  rw [List.foldl_cons]
  refine nd_ordS ?_
  unfold ordS;split
  ·exact h
  ·rename_i hn
   exact List.nodup_append.2 ⟨h,List.nodup_cons.2 ⟨List.not_mem_nil,List.nodup_nil⟩,fun a ha b hb e=>hn (by rw [<-List.mem_singleton.1 hb,<-e];exact ha)⟩
theorem absI_nat {n:Nat}:absI ((n:Int)+1)=(n:Int)+1:=if_neg (Int.not_lt.2 (Int.natCast_nonneg (n+1)))
theorem rnm_abs {o:List Int} (v:Int):absI (rnm o v)=(o.idxOf (absI v):Int)+1:=by unfold rnm;split;exact absI_nat;rw [absI_neg];exact absI_nat
theorem rnm_ne {o:List Int} (v:Int):rnm o v≠0:=by unfold rnm;split<;>(first | exact xp109 | exact xp110)
theorem rnm_neg {o:List Int} {v:Int} (h:v≠0):rnm o (-v)=-rnm o v:=by
 unfold rnm;rw [absI_neg]
 by_cases q:0 < v
 ·rw [if_pos q,if_neg (by exact xp111 q)]
 ·rw [if_neg q,if_pos (by exact xp112 h q),Int.neg_neg]
theorem rnm_sgn {o:List Int} {v:Int} (h:v≠0):0 < rnm o v↔0 < v:=by
 unfold rnm;split
 ·exact ⟨fun _=>by assumption,fun _=>Int.natCast_pos.2 (Nat.succ_pos _)⟩
 ·exact ⟨fun q=>absurd q (Int.not_lt.2 (Int.neg_nonpos_of_nonneg (Int.natCast_nonneg (_+1)))),fun q=>absurd q (by assumption)⟩
theorem idxOf_inj {o:List Int} {a b:Int} (ha:a∈o) (hb:b∈o) (h:o.idxOf a=o.idxOf b):a=b:=by
 have h1:=at_ix ha
 rw [h,at_ix hb] at h1;exact (Option.some.inj h1).symm
theorem rnm_inj {o:List Int} {u v:Int} (hu:absI u∈o) (hv:absI v∈o) (h:rnm o u=rnm o v):u=v:=by
 have h1:=congrArg absI h
 rw [rnm_abs,rnm_abs] at h1
 have h2:=idxOf_inj hu hv (by exact xp113 h1)
 unfold rnm at h;rw [h2] at h
 rcases absI_or u with e | e<;>rcases absI_or v with e' | e'<;>split at h<;>split at h<;>(first | exact xp117 h2 e e' | exact xp120 h2 e e' (by assumption) (by assumption) | exact xp121 h | exact xp123 h | exact xp124 h2 e e' (by assumption) (by assumption) | exact xp125 h2 e e' (by assumption) (by assumption) | exact xp127 h2 e e' (by assumption) (by assumption) | exact xp128 h2 e e')
theorem ordS_map {g:Int->Int} {f:Int->Int} {K:Int->Prop} (gi:∀ a b,K a->K b->g a=g b->a=b) (fa:∀ v,absI (f v)=g (absI v)):∀ {l o:List Int},(∀ v∈l,K (absI v))->(∀ a∈o,K a)->(l.map f).foldl ordS (o.map g)=(l.foldl ordS o).map g
 | [],_,_,_=>rfl
 | v::l,o,h1,h2=>by
  have hv:=h1 v List.mem_cons_self
  rw [List.map_cons,List.foldl_cons,List.foldl_cons]
  have e:ordS (o.map g) (f v)=(ordS o v).map g:=by
   unfold ordS;rw [fa]
   by_cases c:absI v∈o
   ·rw [if_pos c,if_pos (List.mem_map.2 ⟨_,c,rfl⟩)]
   ·rw [if_neg c,if_neg fun z=>c (by obtain ⟨a,ha,e⟩:=List.mem_map.1 z;rw [<-gi a _ (h2 a ha) hv e];exact ha),List.map_append];rfl
  rw [e]
  refine ordS_map gi fa (fun w hw=>h1 w (List.mem_cons_of_mem _ hw)) fun a ha=>?_
  unfold ordS at ha;split at ha
  ·exact h2 a ha
  ·rcases List.mem_append.1 ha with h | h
   ·exact h2 a h
   ·rw [List.mem_singleton.1 h];exact hv
theorem map_idx {o:List Int} (hn:o.Nodup):(o.map fun a=>(o.idxOf a:Int)+1)=up1 o.length:=by
 refine List.ext_getElem? fun k=>?_
 unfold up1
 rw [List.getElem?_map,List.getElem?_map]
 by_cases h:k < o.length
 ·rw [List.getElem?_eq_getElem h,List.getElem?_range h]
  exact congrArg some (by show ((o.idxOf o[k]:Nat):Int)+1=_;rw [hn.idxOf_getElem k h])
 ·rw [List.getElem?_eq_none_iff.2 (by exact xp14 h),List.getElem?_eq_none_iff.2 (by rw [List.length_range];exact xp14 h)];rfl
theorem FDr.renum {ns:List Int} (h0:∀ v∈ns,v≠0) (hl:∀ v∈ns,absI v<=us.length) (hu:∀ t∈us,t=1\/t=-1) (h10:us.length<=10) (p:Pl (ns++[0]) (qU us)):FDr (ns.map (rnm (ns.foldl ordS []))) (rnT us (ns.foldl ordS [])):=by
 obtain ⟨o,ho⟩:∃ o,ns.foldl ordS []=o:=⟨_,rfl⟩
 have hm:∀ a,a∈o↔∃ v∈ns,absI v=a:=fun a=>by rw [<-ho,mem_ordS];exact ⟨fun h=>h.resolve_left List.not_mem_nil,.inr⟩
 have hn:o.Nodup:=ho ▸ nd_ordS List.nodup_nil
 have nd:ns.Nodup:=(List.nodup_append.1 p.row.nd).1
 have neg:∀ v∈ns,-v∈ns:=fun v hv=>(List.mem_append.1 (p.row.neg v (List.mem_append_left _ hv))).resolve_right fun q=>h0 v hv (by have:=List.mem_singleton.1 q;exact xp116 this)
 have pos:∀ a∈o,0 < a/\a<=us.length:=fun a ha=>by obtain ⟨v,hv,rfl⟩:=(hm a).1 ha;exact ⟨absI_pos (h0 v hv),hl v hv⟩
 have hlen:ns.length=2*o.length:=by
  have n2:(o++o.map fun a=>-a).Nodup:=List.nodup_append.2 ⟨hn,List.pairwise_map.2 (hn.imp fun h e=>h (by exact xp75 e)),fun a ha b hb e=>by
   obtain ⟨c,hc,rfl⟩:=List.mem_map.1 hb
   have h1:=pos a ha;have h2:=pos c hc;exact (xp119 e h1.1 h2.1).elim⟩
  have k1:=nodup_le nd (m:=o++o.map fun a=>-a) fun v hv=>by
   have:=(hm (absI v)).2 ⟨v,hv,rfl⟩
   rcases absI_or v with e | e
   ·exact List.mem_append_left _ (e ▸ this)
   ·exact List.mem_append_right _ (List.mem_map.2 ⟨absI v,this,by exact xp122 e⟩)
  have k2:=nodup_le n2 (m:=ns) fun v hv=>by
   have key:∀ a∈o,a∈ns/\-a∈ns:=fun a ha=>by
    obtain ⟨w,hw,rfl⟩:=(hm a).1 ha
    have:=neg w hw
    rcases absI_or w with e | e<;>rw [e]
    ·exact ⟨hw,this⟩
    ·exact ⟨this,by rw [Int.neg_neg];exact hw⟩
   rcases List.mem_append.1 hv with h | h
   ·exact (key v h).1
   ·obtain ⟨a,ha,rfl⟩:=List.mem_map.1 h;exact (key a ha).2
  rw [List.length_append,List.length_map] at k1 k2;exact xp126 k1 k2
 rw [ho]
 have hT:(rnT us o).length=o.length:=by unfold rnT;rw [List.length_map]
 have ab:∀ v∈ns,absI v∈o:=fun v hv=>(hm _).2 ⟨v,hv,rfl⟩
 have ho':o.length<=us.length:=by
  have:=nodup_le hn (m:=up1 us.length) fun a ha=>mem_up1.2 (pos a ha)
  rwa [up1_len] at this
 refine ⟨⟨⟨?_,fun i hi=>?_,?_,?_⟩,fun t ht=>?_,by rw [hT];exact xp129 h10 ho'⟩,?_⟩
 ·exact List.pairwise_map.2 (nd.imp_of_mem fun {a b} ha hb hab e=>hab (rnm_inj (ab a ha) (ab b hb) e))
 ·obtain ⟨v,hv,rfl⟩:=List.mem_map.1 hi
  refine ⟨rnm_ne v,?_⟩
  rw [rnm_abs,hT]
  have:=List.idxOf_lt_length_of_mem (ab v hv);exact xp130 this
 ·have:=ordS_map (g:=fun a=>(o.idxOf a:Int)+1) (f:=rnm o) (K:=fun a=>a∈o) (fun a b ha hb e=>idxOf_inj ha hb (by have e:(o.idxOf a:Int)+1=(o.idxOf b:Int)+1:=e;exact xp113 e)) rnm_abs (l:=ns) (o:=[]) ab (fun _ h=>absurd h List.not_mem_nil)
  rw [List.map_nil,ho,map_idx hn] at this
  rw [this,hT]
 ·rw [List.length_map,hT];exact hlen
 ·obtain ⟨a,ha,rfl⟩:=List.mem_map.1 ht
  have:=pos a ha
  have h3:(a-1).toNat < us.length:=tn3 this.1 this.2
  exact hu _ (by rw [List.getD_eq_getElem?_getD,List.getElem?_eq_getElem h3];exact List.getElem_mem h3)
 ·have e:ns.map (rnm o)++[0]=(ns++[0]).map fun v=>if v=0 then 0 else rnm o v:=by
   rw [List.map_append]
   congr 1
   exact List.map_congr_left fun v hv=>(if_neg (h0 v hv)).symm
  rw [e]
  have m:∀ v∈ns++[0],v≠0->v∈ns:=fun v hv h=>(List.mem_append.1 hv).resolve_right fun q=>h (List.mem_singleton.1 q)
  refine p.map (fun v hv=>?_) (fun v hv=>?_) (fun u hu v hv h=>?_) fun v hv h=>?_
  ·show (if v=0 then 0 else rnm o v)=0↔_
   split
   ·exact ⟨fun _=>by assumption,fun _=>rfl⟩
   ·exact ⟨fun q=>absurd q (rnm_ne v),fun q=>by contradiction⟩
  ·show (if -v=0 then 0 else rnm o (-v))=-(if v=0 then 0 else rnm o v)
   by_cases q:v=0
   ·rw [if_pos (by exact xp131 q),if_pos q];rfl
   ·rw [if_neg (by exact xp102 q),if_neg q];exact rnm_neg q
  ·by_cases q1:u=0<;>by_cases q2:v=0
   ·rw [q1,q2]
   ·simp only [if_pos q1,if_neg q2] at h;exact absurd h.symm (rnm_ne v)
   ·simp only [if_neg q1,if_pos q2] at h;exact absurd h (rnm_ne u)
   ·simp only [if_neg q1,if_neg q2] at h;exact rnm_inj (ab u (m u hu q1)) (ab v (m v hv q2)) h
  ·simp only [if_neg h]
   have hv':=m v hv h
   have h1:=absI_pos h
   unfold qU
   rw [rnm_abs,show ((o.idxOf (absI v):Int)+1-1).toNat=o.idxOf (absI v) from tn1]
   have e2:(rnT us o).getD (o.idxOf (absI v)) 0=us.getD (absI v-1).toNat 0:=by
    unfold rnT;rw [List.getD_eq_getElem?_getD,List.getElem?_map,at_ix (ab v hv')];rfl
   rw [e2]
   by_cases q:0 < v
   ·rw [if_neg (by have:=(rnm_sgn (o:=o) h).2 q;exact xp132 this),if_neg (by exact xp132 q)]
   ·rw [if_pos (by have q1:=mt (rnm_sgn (o:=o) h).1 q;have q2:=rnm_ne (o:=o) v;exact Int.lt_iff_le_and_ne.2 ⟨Int.not_lt.1 q1,q2⟩),if_pos (by exact xp134 h q)]
end
end Mine.Internal
end
section
namespace Mine.Internal
noncomputable def knd (b:Bool) (v:Int):Bool:=if b then decide (0 < v) else decide (v < 0)
noncomputable def Fall (b:Bool) (ps:List Int):Prop:=∀ v∈ps,knd b v=false->[-v,v].Sublist ps
noncomputable def gonL (ps:List Int) (b e:Nat):List Int:=((ps.take e).drop b).map absI
noncomputable def lftL (ps:List Int) (b e:Nat):List Int:=(ps.drop e++0::ps.take b).filter fun v=>!decide (absI v∈gonL ps b e)
section
variable {ps us A M B:List Int} {u:Int} {b:Bool}
theorem fall_pre (hn:ps.Nodup) (hf:Fall b ps) (e:ps=A++u::M++-u::B) (np:∀ v∈A++u::M,-v∉A++u::M):∀ v∈u::M,knd b v=true:=fun v hv=>by
 have hv':v∈A++u::M:=List.mem_append_right _ hv
 apply Classical.byContradiction
 intro hk
 have hs:=hf v (e ▸ List.mem_append_left _ hv') (Bool.eq_false_iff.2 hk)
 rw [e] at hs hn
 obtain ⟨l1,l2,h1,h2,h3⟩:=List.sublist_append_iff.1 hs
 have hv2:v∉l2:=fun h=>(List.nodup_append.1 hn).2.2 v hv' v (h3.subset h) rfl
 have:l2=[]:=by
  rcases l2.eq_nil_or_concat with h | ⟨l,w,h⟩
  ·exact h
  ·rw [List.concat_eq_append] at h
   subst h
   rw [<-List.append_assoc,show [-v,v]=[-v]++[v] from rfl] at h1
   have:=(List.cons.inj (List.append_inj' h1 rfl).2).1
   exact absurd (this ▸ List.mem_append_right _ List.mem_cons_self) hv2
 subst this
 rw [List.append_nil] at h1
 subst h1
 exact np v hv' (h2.subset List.mem_cons_self)
theorem cut_at (e:ps=A++u::M++-u::B):ps.drop (A++u::M).length=-u::B/\ps.take A.length=A/\(ps.take (A++u::M).length).drop A.length=u::M:=by
 refine ⟨by rw [e,List.drop_left],by rw [e,List.append_assoc,List.take_left],by rw [e,List.take_left,List.drop_left]⟩
theorem loop_next (h:FDr ps us) (hf:Fall b ps) (e:ps=A++u::M++-u::B) (np:∀ v∈A++u::M,-v∉A++u::M):
  ∃ A' B',lftL ps A.length (A++u::M).length=B'++0::A'/\Pl (B'++0::A') (qU us)/\Reach (rnx (B'++0::A') (qU us)) ((B'++0::A').length,true) (0,false)/\(∀ v∈A'++B',v≠0/\absI v<=us.length)/\(A'++B').length < ps.length /\
   FDr ((A'++B').map (rnm ((A'++B').foldl ordS []))) (rnT us ((A'++B').foldl ordS []))/\Fall b ((A'++B').map (rnm ((A'++B').foldl ordS []))):=by
 obtain ⟨c1,c2,c3⟩:=cut_at e
 have g:=h.ok.good
 have hn:=g.nd
 have z:∀ v∈ps,v≠0:=fun v hv=>(g.ok v hv).1
 rw [e] at hn
 have n1:=List.nodup_append.1 hn
 have n2:=List.nodup_cons.1 n1.2.1
 have pA:∀ v∈A,v∈ps:=fun v hv=>e ▸ List.mem_append_left _ (List.mem_append_left _ hv)
 have pM:∀ v∈u::M,v∈ps:=fun v hv=>e ▸ List.mem_append_left _ (List.mem_append_right _ hv)
 have pB:∀ v∈B,v∈ps:=fun v hv=>e ▸ List.mem_append_right _ (List.mem_cons_of_mem _ hv)
 have hu:u≠0:=z u (pM u List.mem_cons_self)
 obtain ⟨p,hp⟩:∃ p:Int->Bool,p=fun v=>!decide (absI v∈(u::M).map absI):=⟨_,rfl⟩
 have pn:∀ v,p (-v)=p v:=fun v=>by rw [hp];simp only [absI_neg]
 have ponly:∀ v∈u::M,p v=false:=fun v hv=>by rw [hp];simp only [decide_eq_true (List.mem_map.2 ⟨v,hv,rfl⟩)];rfl
 have p0:p 0=true:=by
  rw [hp]
  simp only
  rw [decide_eq_false fun q=>by
   obtain ⟨v,hv,e⟩:=List.mem_map.1 q
   have:=absI_pos (z v (pM v hv));rw [e] at this;exact absurd this (by decide)];rfl
 have pu:p (-u)=false:=(pn u).trans (ponly u List.mem_cons_self)
 have hY:lftL ps A.length (A++u::M).length=B.filter p++0::A.filter p:=by
  unfold lftL gonL
  rw [c1,c2,c3,<-hp,List.filter_append,List.filter_cons_of_neg (by rw [pu];exact Bool.false_ne_true),List.filter_cons_of_pos p0]
 have hX:∀ x∈B++0::A,decide (-x∉M)=p x:=fun x hx=>by
  rw [hp]
  show _=!decide (absI x∈(u::M).map absI)
  rw [<-decide_not]
  refine decide_eq_decide.2 (not_congr ⟨fun h=>List.mem_map.2 ⟨-x,List.mem_cons_of_mem _ h,absI_neg x⟩,fun h=>?_⟩)
  obtain ⟨v,hv,e2⟩:=List.mem_map.1 h
  have hxv:x≠v:=fun q=>by
   subst q
   rcases List.mem_append.1 hx with h | h
   ·exact n1.2.2 x (List.mem_append_right _ hv) x (List.mem_cons_of_mem _ h) rfl
   ·rcases List.mem_cons.1 h with h | h
    ·exact z x (pM x hv) h
    ·exact (List.nodup_append.1 n1.1).2.2 x h x hv rfl
  rcases absI_eq e2 with q | q
  ·exact absurd q hxv
  ·rcases List.mem_cons.1 hv with r | r
   ·exfalso
    rw [r] at q
    rcases List.mem_append.1 hx with h | h
    ·exact n2.1 (q ▸ h)
    ·rcases List.mem_cons.1 h with h | h
     ·exact xp137 hu q h
     ·exact np u (List.mem_append_right _ List.mem_cons_self) (List.mem_append_left _ (q ▸ h))
   ·rw [q,Int.neg_neg];exact r
 have eX:(B++0::A).filter (fun x=>decide (-x∉M))=B.filter p++0::A.filter p:=by
  rw [List.filter_congr hX,List.filter_append,List.filter_cons_of_pos p0]
 have hP:Pl (-u::(B++0::A)++u::M) (qU us):=by
  have:=h.pl
  rw [e,List.append_assoc] at this
  have:=this.rot
  simpa using this
 obtain ⟨q1,q2⟩:=loop_out hu (List.mem_append_right _ List.mem_cons_self) (fun v hv=>by
  have hv1:=pM v (List.mem_cons_of_mem _ hv)
  refine ⟨z v hv1,?_⟩
  have h1:-v∈ps:=g.mem (by have:=z v hv1;exact xp102 this) (by rw [absI_neg];exact (g.ok v hv1).2)
  rw [e] at h1
  have hv2:v∈A++u::M:=List.mem_append_right _ (List.mem_cons_of_mem _ hv)
  have h2:=(List.mem_append.1 h1).resolve_left (np v hv2)
  rcases List.mem_cons.1 h2 with h3 | h3
  ·exact absurd (show v=u by exact xp75 h3) fun q=>(List.nodup_cons.1 (List.nodup_append.1 n1.1).2.1).1 (q ▸ hv)
  ·exact List.mem_append_left _ h3) hP
 rw [eX] at q1 q2
 have hB:(-u::B).filter p=B.filter p:=List.filter_cons_of_neg (by rw [pu];exact Bool.false_ne_true)
 have hM:(u::M).filter p=[]:=List.filter_eq_nil_iff.2 fun v hv=>by rw [ponly v hv];exact Bool.false_ne_true
 have hps:ps.filter p=A.filter p++B.filter p:=by
  rw [e,List.filter_append,List.filter_append,hB,hM,List.append_nil]
 have mem:∀ v∈A.filter p++B.filter p,v∈ps/\p v=true:=fun v hv=>List.mem_filter.1 (hps ▸ hv)
 have bd:∀ v∈A.filter p++B.filter p,v≠0/\absI v<=us.length:=fun v hv=>g.ok v (mem v hv).1
 refine ⟨A.filter p,B.filter p,hY,q1,q2,bd,?_,?_,?_⟩
 ·rw [<-hps,e,List.filter_append,hB,List.length_append,List.length_append,List.length_cons]
  have k1:=List.length_filter_le p B
  have k2:=List.length_filter_le p (A++u::M)
  exact xp138 k1 k2
 ·refine FDr.renum (fun v hv=>(bd v hv).1) (fun v hv=>(bd v hv).2) h.ok.tn h.ok.n10 ?_
  have:Pl (B.filter p++[0]++A.filter p) (qU us):=by rw [List.append_assoc];exact q1
  have:=this.rot
  rw [<-List.append_assoc] at this;exact this
 ·intro v hv hk
  obtain ⟨w,hw,rfl⟩:=List.mem_map.1 hv
  obtain ⟨hw1,hw2⟩:=mem w hw
  have h0:=z w hw1
  have hs:=hf w hw1 (by
   rw [<-hk];unfold knd
   have:=rnm_sgn (o:=(A.filter p++B.filter p).foldl ordS []) h0
   have h3:=rnm_ne (o:=(A.filter p++B.filter p).foldl ordS []) w
   cases b
   ·exact decide_eq_decide.2 (ltiff this h3 h0)
   ·exact decide_eq_decide.2 this.symm)
  have hs2:=hs.filter p
  rw [List.filter_cons_of_pos (by rw [pn];exact hw2),List.filter_cons_of_pos hw2,List.filter_nil,hps] at hs2
  have hs3:=hs2.map (rnm ((A.filter p++B.filter p).foldl ordS []))
  rw [List.map_cons,rnm_neg h0] at hs3
  exact hs3
noncomputable def NP (P:List Int):Prop:=∀ v∈P,-v∉P
theorem NP.snoc {P:List Int} {v:Int} (h:NP P) (h0:v≠0) (hv:-v∉P):NP (P++[v]):=fun w hw q=>by
 rcases List.mem_append.1 hw with h1 | h1<;>rcases List.mem_append.1 q with h2 | h2
 ·exact h w h1 h2
 ·exact hv (by have:=List.mem_singleton.1 h2;rw [show -v=w by exact xp135 this];exact h1)
 ·rw [List.mem_singleton.1 h1] at h2;exact hv h2
 ·have r1:=List.mem_singleton.1 h2;have r2:=List.mem_singleton.1 h1;exact (xp136 h0 r1 r2).elim
end
end Mine.Internal
end
section
namespace Mine.Internal
open PySem
noncomputable def f9_side_behind:Fn:=⟨14,3,[
 (.unpack [3,4] (.var 2)),
 (.ite (.or [(.and [(.cmp .eq (.var 4) (.const (.int 1))),(.cmp .eq (.var 3) (.prim .len [(.var 0)]))]),(.and [(.cmp .eq (.var 4) (.neg (.const (.int 1)))),(.cmp .eq (.var 3) (.const (.int 0)))])]) [(.ret (.tup [(.var 3),(.bin .sub (.const (.int 0)) (.var 4))]))] []),
 (.assign 5 (.ite (.cmp .eq (.var 4) (.const (.int 1))) (.idx (.var 0) (.var 3)) (.idx (.var 0) (.bin .sub (.var 3) (.const (.int 1)))))),
 (.ite (.cmp .eq (.var 5) (.const (.int 0))) [(.ret (.tup [(.bin .add (.var 3) (.var 4)),(.var 4)]))] []),
 (.assign 6 (.bin .mul (.var 4) (.idx (.var 1) (.prim .abs [(.var 5)])))),
 (.ite (.cmp .lt (.var 5) (.const (.int 0))) [(.assign 6 (.bin .sub (.const (.int 0)) (.var 6)))] []),
 (.assign 7 (.index (.var 0) (.bin .sub (.const (.int 0)) (.var 5)))),
 (.ite (.cmp .eq (.var 6) (.const (.int 1))) [(.ret (.tup [(.bin .add (.var 7) (.const (.int 1))),(.const (.int 1))]))] []),
 (.ret (.tup [(.var 7),(.neg (.const (.int 1)))]))]⟩
noncomputable def f9_face_of:Fn:=⟨10,3,[
 (.assign 3 .dct0),
 (.while_ (.cmp .notIn (.var 2) (.var 3)) [(.setItem 3 (.var 2) (.const (.bool true))),(.assign 2 (.call 0 false [(.var 0),(.var 1),(.var 2)]))]),
 (.ret (.var 3))]⟩
noncomputable def f9_face_count:Fn:=⟨12,2,[
 (.assign 2 .dct0),
 (.assign 3 (.const (.int 0))),
 (.for_ (.one 4) .range1 [(.bin .add (.prim .len [(.var 0)]) (.const (.int 1)))] [(.for_ (.one 5) .seq [(.tup [(.const (.int 1)),(.neg (.const (.int 1)))])] [(.ite (.cmp .notIn (.tup [(.var 4),(.var 5)]) (.var 2)) [(.update 2 (.call 1 false [(.var 0),(.var 1),(.tup [(.var 4),(.var 5)])])),(.assign 3 (.bin .add (.var 3) (.const (.int 1))))] [])])]),
 (.ret (.var 3))]⟩
noncomputable def f9_numbered:Fn:=⟨11,2,[
 (.assign 2 .dct0),
 (.for_ (.one 3) .seq [(.var 0)] [(.ite (.cmp .notIn (.prim .abs [(.var 3)]) (.var 2)) [(.setItem 2 (.prim .abs [(.var 3)]) (.bin .add (.prim .len [(.var 2)]) (.const (.int 1))))] [])]),
 (.assign 4 (.lst [])),
 (.for_ (.one 3) .seq [(.var 0)] [(.append 4 (.ite (.cmp .gt (.var 3) (.const (.int 0))) (.idx (.var 2) (.prim .abs [(.var 3)])) (.bin .sub (.const (.int 0)) (.idx (.var 2) (.prim .abs [(.var 3)])))))]),
 (.ret (.tup [(.prim .tupleOf [(.var 4)]),(.prim .tupleOf [(.comp (.idx (.var 1) (.var 5)) (.one 5) .seq [(.var 2)] [])])]))]⟩
noncomputable def f9_is_number:Fn:=⟨7,1,[
 (.ret (.and [(.prim (.isi .int) [(.var 0)]),(.not (.prim (.isi .bool) [(.var 0)]))]))]⟩
noncomputable def f9_turns_of:Fn:=⟨10,1,[
 (.assign 1 .dct0),
 (.for_ (.many [2,3]) .enum [(.idx (.var 0) (.const (.int 1)))] [(.setItem 1 (.bin .add (.var 2) (.const (.int 1))) (.var 3))]),
 (.ret (.var 1))]⟩
noncomputable def f9_are_passes:Fn:=⟨11,2,[
 (.assign 2 (.const (.int 0))),
 (.assign 3 .dct0),
 (.for_ (.one 4) .seq [(.var 0)] [(.ite (.or [(.not (.call 4 false [(.var 4)])),(.cmp .eq (.var 4) (.const (.int 0))),(.cmp .gt (.prim .abs [(.var 4)]) (.var 1)),(.cmp .isIn (.var 4) (.var 3))]) [(.ret (.const (.bool false)))] []),(.ite (.cmp .notIn (.bin .sub (.const (.int 0)) (.var 4)) (.var 3)) [(.assign 2 (.bin .add (.var 2) (.const (.int 1)))),(.ite (.cmp .ne (.prim .abs [(.var 4)]) (.var 2)) [(.ret (.const (.bool false)))] [])] []),(.setItem 3 (.var 4) (.const (.bool true)))]),
 (.ret (.and [(.cmp .eq (.prim .len [(.var 0)]) (.bin .mul (.const (.int 2)) (.var 1))),(.cmp .eq (.var 2) (.var 1))]))]⟩
noncomputable def f9_is_drawing:Fn:=⟨9,1,[
 (.ite (.or [(.not (.prim (.isi .tuple) [(.var 0)])),(.cmp .ne (.prim .len [(.var 0)]) (.const (.int 2)))]) [(.ret (.const (.bool false)))] []),
 (.unpack [1,2] (.var 0)),
 (.ite (.or [(.not (.prim (.isi .tuple) [(.var 1)])),(.not (.prim (.isi .tuple) [(.var 2)])),(.cmp .gt (.prim .len [(.var 2)]) (.const (.int 40)))]) [(.ret (.const (.bool false)))] []),
 (.ite (.not (.prim .all [(.comp (.and [(.call 4 false [(.var 3)]),(.or [(.cmp .eq (.var 3) (.const (.int 1))),(.cmp .eq (.var 3) (.neg (.const (.int 1))))])]) (.one 3) .seq [(.var 2)] [])])) [(.ret (.const (.bool false)))] []),
 (.ite (.or [(.cmp .ne (.prim .len [(.var 1)]) (.bin .mul (.const (.int 2)) (.prim .len [(.var 2)]))),(.not (.call 6 false [(.var 1),(.prim .len [(.var 2)])]))]) [(.ret (.const (.bool false)))] []),
 (.ret (.cmp .eq (.call 2 false [(.bin .add (.prim .listOf [(.var 1)]) (.lst [(.const (.int 0))])),(.call 5 false [(.var 0)])]) (.bin .add (.prim .len [(.var 2)]) (.const (.int 1)))))]⟩
noncomputable def f9_need_drawing:Fn:=⟨7,1,[
 (.ite (.not (.call 7 false [(.var 0)])) [.halt] [])]⟩
noncomputable def f9_is_of_kind:Fn:=⟨8,2,[
 (.ret (.ite (.cmp .eq (.var 1) (.const (.str "over"))) (.cmp .gt (.var 0) (.const (.int 0))) (.cmp .lt (.var 0) (.const (.int 0)))))]⟩
noncomputable def f9_need_stretch:Fn:=⟨11,4,[
 (.expr (.call 8 false [(.var 0)])),
 (.assign 4 (.idx (.var 0) (.const (.int 0)))),
 (.ite (.or [(.not (.call 4 false [(.var 1)])),(.not (.call 4 false [(.var 2)])),(.not (.chain (.const (.int 0)) (.var 1) (.var 2) (.prim .len [(.var 4)])))]) [.halt] []),
 (.ite (.or [(.not (.prim (.isi .str) [(.var 3)])),(.cmp .notIn (.var 3) (.tup [(.const (.str "over")),(.const (.str "under"))]))]) [.halt] []),
 (.ite (.not (.prim .all [(.comp (.call 9 false [(.var 5),(.var 3)]) (.one 5) .seq [(.slLH (.var 4) (.var 1) (.var 2))] [])])) [.halt] [])]⟩
noncomputable def f9_rest_of:Fn:=⟨9,3,[
 (.ret (.bin .add (.bin .add (.prim .listOf [(.slL (.idx (.var 0) (.const (.int 0))) (.var 2))]) (.lst [(.const (.int 0))])) (.prim .listOf [(.slH (.idx (.var 0) (.const (.int 0))) (.var 1))])))]⟩
noncomputable def f9_lifted:Fn:=⟨12,4,[
 (.assign 4 (.comp (.prim .abs [(.var 6)]) (.one 6) .seq [(.slLH (.idx (.var 0) (.const (.int 0))) (.var 1) (.var 2))] [])),
 (.assign 5 (.comp (.var 6) (.one 6) .seq [(.call 11 false [(.var 0),(.var 1),(.var 2)])] [(.cmp .notIn (.prim .abs [(.var 6)]) (.var 4))])),
 (.retMk 5 (.call 5 false [(.var 0)]) (.var 3) (.bin .add (.prim .len [(.idx (.var 0) (.const (.int 1)))]) (.const (.int 1))))]⟩
noncomputable def f9_is_able:Fn:=⟨0,0,[]⟩
noncomputable def f9_gone_along:Fn:=⟨13,5,[
 (.expr (.call 10 false [(.var 0),(.var 1),(.var 2),(.var 3)])),
 (.assign 5 (.call 12 false [(.var 0),(.var 1),(.var 2),(.var 3)])),
 (.ite (.not (.prim (.isi .seq) [(.var 4)])) [.halt] []),
 (.for_ (.one 6) .seq [(.var 4)] [.halt,.halt,.halt]),
 (.ret (.var 5))]⟩
noncomputable def f9_joined:Fn:=⟨12,5,[
 (.assign 5 (.call 14 false [(.var 0),(.var 1),(.var 2),(.var 3),(.var 4)])),
 (.ite (.not (.call 31 false [(.var 5)])) [.halt] []),
 (.ret (.var 5))]⟩
noncomputable def f9_lay:Fn:=⟨11,5,[
 (.ret (.call 32 false [(.call 15 false [(.var 0),(.var 1),(.var 2),(.var 3),(.var 4)])]))]⟩
noncomputable def f9_fall:Fn:=⟨10,1,[
 (.expr (.call 8 false [(.var 0)])),
 (.assign 1 .dct0),
 (.assign 2 (.lst [])),
 (.for_ (.one 3) .seq [(.idx (.var 0) (.const (.int 0)))] [(.ite (.cmp .notIn (.prim .abs [(.var 3)]) (.var 1)) [(.setItem 1 (.prim .abs [(.var 3)]) (.const (.bool true))),(.append 2 (.cmp .gt (.var 3) (.const (.int 0))))] [])]),
 (.ite (.prim .all [(.var 2)]) [(.ret (.const (.str "over")))] []),
 (.ite (.not (.prim .any [(.var 2)])) [(.ret (.const (.str "under")))] []),
 (.ret (.const .none))]⟩
noncomputable def f9_first_loop:Fn:=⟨10,1,[
 (.assign 1 .dct0),
 (.for_ (.many [2,3]) .enum [(.var 0)] [(.ite (.cmp .isIn (.prim .abs [(.var 3)]) (.var 1)) [(.ret (.tup [(.idx (.var 1) (.prim .abs [(.var 3)])),(.var 2)]))] []),(.setItem 1 (.prim .abs [(.var 3)]) (.var 2))]),
 (.ret (.const .none))]⟩
noncomputable def f9_undone:Fn:=⟨11,1,[
 (.assign 1 (.call 17 false [(.var 0)])),
 (.ite (.cmp .is_ (.var 1) (.const .none)) [.halt] []),
 (.assign 2 (.lst [])),
 (.while_ (.cmp .gt (.prim .len [(.idx (.var 0) (.const (.int 0)))]) (.const (.int 0))) [(.unpack [3,4] (.call 18 false [(.idx (.var 0) (.const (.int 0)))])),(.append 2 (.tup [(.var 3),(.var 4),(.var 1),(.tup [])])),(.assign 0 (.call 16 false [(.var 0),(.var 3),(.var 4),(.var 1),(.tup [])]))]),
 (.ret (.var 2))]⟩
noncomputable def f9__law_cell_at:Fn:=⟨8,2,[
 (.ite (.cmp .lt (.var 1) (.prim .len [(.var 0)])) [(.ret (.idx (.var 0) (.var 1)))] []),
 (.ret (.const (.int 0)))]⟩
noncomputable def f9__law_stream:Fn:=⟨11,2,[
 (.assign 2 (.lst [])),
 (.assign 3 (.bin .add (.bin .mod (.var 0) (.const (.int 2147483647))) (.const (.int 48271)))),
 (.for_ (.one 4) .range1 [(.bin .add (.var 1) (.const (.int 1)))] [(.assign 3 (.bin .mod (.bin .add (.bin .add (.bin .mul (.var 3) (.var 3)) (.bin .mul (.const (.int 48271)) (.var 3))) (.var 4)) (.const (.int 2147483647)))),(.append 2 (.var 3))]),
 (.ret (.slL (.var 2) (.const (.int 1))))]⟩
noncomputable def f9__law_numbered:Fn:=⟨11,2,[
 (.assign 2 (.lst [])),
 (.for_ (.one 3) .seq [(.var 0)] [(.ite (.cmp .notIn (.prim .abs [(.var 3)]) (.var 2)) [(.append 2 (.prim .abs [(.var 3)]))] [])]),
 (.assign 4 (.comp (.bin .mul (.bin .add (.index (.var 2) (.prim .abs [(.var 5)])) (.const (.int 1))) (.idx (.lst [(.const (.int 1)),(.neg (.const (.int 1)))]) (.prim .intOf [(.cmp .lt (.var 5) (.const (.int 0)))]))) (.one 5) .seq [(.var 0)] [])),
 (.ret (.tup [(.prim .tupleOf [(.var 4)]),(.prim .tupleOf [(.comp (.idx (.var 1) (.var 5)) (.one 5) .seq [(.var 2)] [])])]))]⟩
noncomputable def f9__law_cycles:Fn:=⟨14,2,[
 (.assign 2 (.prim .listRange [(.var 0)])),
 (.for_ (.many [3,4]) .seq [(.var 1)] [(.assign 2 (.bin .add (.bin .add (.slH (.var 2) (.var 3)) (.lst [(.idx (.var 2) (.bin .add (.var 3) (.const (.int 1)))),(.idx (.var 2) (.var 3))])) (.slL (.var 2) (.bin .add (.var 3) (.const (.int 2))))))]),
 (.assign 5 (.prim .listRange [(.var 0)])),
 (.for_ (.one 6) .range1 [(.var 0)] [(.assign 7 (.idx (.var 5) (.idx (.var 2) (.var 6)))),(.assign 5 (.comp (.ite (.cmp .eq (.var 8) (.var 7)) (.idx (.var 5) (.var 6)) (.var 8)) (.one 8) .seq [(.var 5)] []))]),
 (.ret (.var 5))]⟩
noncomputable def f9__law_braid:Fn:=⟨13,2,[
 (.assign 2 (.call 21 false [(.var 0),(.bin .add (.const (.int 2)) (.var 1))])),
 (.assign 3 (.bin .add (.const (.int 1)) (.bin .mod (.idx (.var 2) (.const (.int 0))) (.const (.int 4))))),
 (.assign 4 (.lst [])),
 (.for_ (.one 5) .range1 [(.bin .mul (.bin .mod (.idx (.var 2) (.const (.int 1))) (.bin .add (.var 1) (.const (.int 1)))) (.prim .intOf [(.cmp .gt (.var 3) (.const (.int 1)))]))] [(.append 4 (.tup [(.bin .mod (.idx (.var 2) (.bin .add (.const (.int 2)) (.var 5))) (.prim .max2 [(.const (.int 1)),(.bin .sub (.var 3) (.const (.int 1)))])),(.idx (.lst [(.const (.int 1)),(.neg (.const (.int 1)))]) (.bin .mod (.bin .fdiv (.idx (.var 2) (.bin .add (.const (.int 2)) (.var 5))) (.const (.int 7))) (.const (.int 2))))]))]),
 (.for_ (.one 5) .range1 [(.bin .sub (.var 3) (.const (.int 1)))] [(.assign 6 (.call 23 true [(.var 3),(.var 4)])),(.ite (.cmp .ne (.idx (.var 6) (.var 5)) (.idx (.var 6) (.bin .add (.var 5) (.const (.int 1))))) [(.append 4 (.tup [(.var 5),(.idx (.lst [(.const (.int 1)),(.neg (.const (.int 1)))]) (.bin .mod (.bin .fdiv (.bin .fdiv (.idx (.var 2) (.const (.int 1))) (.const (.int 16))) (.bin .add (.var 5) (.const (.int 1)))) (.const (.int 2))))]))] [])]),
 (.ret (.tup [(.var 3),(.var 4)]))]⟩
noncomputable def f9__law_drawn:Fn:=⟨17,2,[
 (.unpack [2,3] (.call 24 false [(.var 0),(.var 1)])),
 (.assign 4 (.lst [])),
 (.assign 5 (.const (.int 0))),
 (.for_ (.one 6) .range1 [(.var 2)] [(.for_ (.one 7) .range1 [(.prim .len [(.var 3)])] [(.unpack [8,9] (.idx (.var 3) (.var 7))),(.ite (.cmp .eq (.var 5) (.var 8)) [(.append 4 (.bin .mul (.bin .add (.var 7) (.const (.int 1))) (.neg (.var 9)))),(.assign 5 (.bin .add (.var 8) (.const (.int 1))))] [(.ite (.cmp .eq (.var 5) (.bin .add (.var 8) (.const (.int 1)))) [(.append 4 (.bin .mul (.bin .add (.var 7) (.const (.int 1))) (.var 9))),(.assign 5 (.var 8))] [])])])]),
 (.assign 10 (.bin .mod (.bin .mod (.var 0) (.const (.int 1009))) (.prim .max2 [(.const (.int 1)),(.prim .len [(.var 4)])]))),
 (.ret (.call 22 false [(.bin .add (.slL (.var 4) (.var 10)) (.slH (.var 4) (.var 10))),(.bin .add (.lst [(.const (.int 0))]) (.comp (.var 12) (.many [11,12]) .seq [(.var 3)] []))]))]⟩
noncomputable def f9__law_falling:Fn:=⟨12,2,[
 (.unpack [2,3] (.var 0)),
 (.assign 4 (.comp (.prim .abs [(.var 7)]) (.many [6,7]) .enum [(.var 2)] [(.and [(.cmp .notIn (.neg (.var 7)) (.slH (.var 2) (.var 6))),(.cmp .lt (.bin .mul (.var 7) (.var 1)) (.const (.int 0)))])])),
 (.assign 5 (.prim .tupleOf [(.comp (.ite (.cmp .isIn (.prim .abs [(.var 6)]) (.var 4)) (.neg (.var 6)) (.var 6)) (.one 6) .seq [(.var 2)] [])])),
 (.ret (.tup [(.var 5),(.prim .tupleOf [(.comp (.ite (.cmp .isIn (.bin .add (.var 6) (.const (.int 1))) (.var 4)) (.neg (.idx (.var 3) (.var 6))) (.idx (.var 3) (.var 6))) (.one 6) .range1 [(.prim .len [(.var 3)])] [])])]))]⟩
noncomputable def f9__law_fall:Fn:=⟨8,1,[
 (.assign 1 (.comp (.var 3) (.many [2,3]) .enum [(.var 0)] [(.cmp .notIn (.neg (.var 3)) (.slH (.var 0) (.var 2)))])),
 (.ite (.cmp .eq (.comp (.var 2) (.one 2) .seq [(.var 1)] [(.cmp .lt (.var 2) (.const (.int 0)))]) (.lst [])) [(.ret (.const (.str "over")))] []),
 (.ite (.cmp .eq (.comp (.var 2) (.one 2) .seq [(.var 1)] [(.cmp .gt (.var 2) (.const (.int 0)))]) (.lst [])) [(.ret (.const (.str "under")))] []),
 (.ret (.const .none))]⟩
noncomputable def f9__law_refused:Fn:=⟨8,1,[
 (.tryR 19 [(.var 0)]),
 (.ret (.const (.bool false)))]⟩
noncomputable def f9_law:Fn:=⟨14,1,[
 (.assign 1 (.call 25 false [(.call 20 false [(.var 0),(.const (.int 0))]),(.const (.int 7))])),
 (.assign 2 (.idx (.call 21 false [(.call 20 false [(.var 0),(.const (.int 1))]),(.const (.int 1))]) (.const (.int 0)))),
 (.ite (.cmp .gt (.bin .mod (.var 2) (.const (.int 4))) (.const (.int 0))) [(.assign 1 (.call 26 false [(.var 1),(.idx (.lst [(.const (.int 1)),(.neg (.const (.int 1)))]) (.bin .mod (.bin .fdiv (.var 2) (.const (.int 4))) (.const (.int 2))))]))] []),
 (.ite (.and [(.cmp .eq (.bin .mod (.var 2) (.const (.int 4))) (.const (.int 3))),(.cmp .gt (.prim .len [(.idx (.var 1) (.const (.int 1)))]) (.const (.int 0)))]) [(.assign 3 (.bin .add (.const (.int 1)) (.bin .mod (.bin .fdiv (.var 2) (.const (.int 8))) (.prim .len [(.idx (.var 1) (.const (.int 1)))])))),(.assign 4 (.prim .tupleOf [(.comp (.ite (.cmp .eq (.prim .abs [(.var 8)]) (.var 3)) (.neg (.var 8)) (.var 8)) (.one 8) .seq [(.idx (.var 1) (.const (.int 0)))] [])])),(.assign 5 (.prim .tupleOf [(.comp (.ite (.cmp .eq (.bin .add (.var 8) (.const (.int 1))) (.var 3)) (.neg (.idx (.idx (.var 1) (.const (.int 1))) (.var 8))) (.idx (.idx (.var 1) (.const (.int 1))) (.var 8))) (.one 8) .range1 [(.prim .len [(.idx (.var 1) (.const (.int 1)))])] [])])),(.assign 1 (.tup [(.var 4),(.var 5)]))] []),
 (.assign 6 (.call 27 false [(.idx (.var 1) (.const (.int 0)))])),
 (.assign 7 (.call 17 false [(.var 1)])),
 (.ite (.or [(.cmp .ne (.var 7) (.var 6)),(.and [(.cmp .isNot (.var 6) (.const .none)),(.not (.prim (.isi .str) [(.var 7)]))])]) [(.ret (.const (.bool false)))] []),
 (.ret (.and [(.ite (.cmp .is_ (.var 6) (.const .none)) (.call 28 false [(.var 1)]) (.prim (.isi .list) [(.call 19 false [(.var 1)])])),(.cmp .eq (.call 17 false [(.tup [(.tup []),(.tup [])])]) (.const (.str "over")))]))]⟩
noncomputable def f9_face:Fn:=⟨7,1,[
 (.ret (.call 1 false [(.attr (.var 0) 0),(.attr (.var 0) 1),(.tup [(.prim .len [(.attr (.var 0) 0)]),(.const (.int 1))])]))]⟩
noncomputable def f9_leads:Fn:=⟨7,1,[
 (.ret (.cmp .isIn (.tup [(.const (.int 0)),(.neg (.const (.int 1)))]) (.call 30 false [(.var 0)])))]⟩
noncomputable def f9_drawing:Fn:=⟨8,1,[
 (.assign 1 (.index (.attr (.var 0) 0) (.const (.int 0)))),
 (.ret (.call 3 false [(.bin .add (.slL (.attr (.var 0) 0) (.bin .add (.var 1) (.const (.int 1)))) (.slH (.attr (.var 0) 0) (.var 1))),(.attr (.var 0) 1)]))]⟩
noncomputable def zA:List Fn:=[f9_side_behind,f9_face_of,f9_face_count,f9_numbered,f9_is_number,f9_turns_of,f9_are_passes,f9_is_drawing,f9_need_drawing,f9_is_of_kind,f9_need_stretch,f9_rest_of,f9_lifted,f9_is_able,f9_gone_along,f9_joined,f9_lay,f9_fall,f9_first_loop,f9_undone,f9__law_cell_at,f9__law_stream,f9__law_numbered,f9__law_cycles,f9__law_braid,f9__law_drawn,f9__law_falling,f9__law_fall,f9__law_refused,f9_law,f9_face,f9_leads,f9_drawing]
end Mine.Internal
end
section
namespace Mine.Internal
open PySem
theorem c2 {n f:Nat} {args:List PV} {fn:Fn} (h:zA[f]?=some fn):callN zA (n+1) f args=runFn fn (callN zA n) args:=callS h
theorem run2 {fn:Fn} {cf:Nat->List PV->Res PV} {args:List PV} {o:Out} {ρ:Slots} (ha:args.length=fn.arity) (hρ:args.map some++List.replicate (fn.slots-fn.arity) none=ρ) (h:exs cf ρ fn.body=.ok o):runFn fn cf args=.ok (outVal o):=by
 simp only [runFn,ha,if_true,hρ,h,bindK]
theorem zB {cf:Nat->List PV->Res PV} {ρ ρ':Slots} {p:PS} {r:List PS} (h:ex cf ρ p=.ok (.next ρ')):exs cf ρ (p::r)=exs cf ρ' r:=by
 simp only [exsC,h,bindK]
theorem exs_r {cf:Nat->List PV->Res PV} {ρ:Slots} {p:PS} {r:List PS} {d:PV} (h:ex cf ρ p=.ok (.ret d)):exs cf ρ (p::r)=.ok (.ret d):=by
 simp only [exsC,h,bindK]
theorem exs_0 {cf:Nat->List PV->Res PV} {ρ:Slots}:exs cf ρ []=.ok (.next ρ):=by simp only [exsN]
theorem ex_while {cf:Nat->List PV->Res PV} {ρ:Slots} {c:PE} {body:List PS} {o:Out} (h:whileGo (fun ρ'=>ev cf ρ' c) (fun ρ'=>exs cf ρ' body) fuel ρ=.ok o):ex cf ρ (.while_ c body)=.ok o:=xE10.trans h
theorem ex_for {cf:Nat->List PV->Res PV} {ρ:Slots} {t:Tgt} {k:ItK} {src:List PE} {body:List PS} {o:Out} {xs ds:List PV} (hs:evs cf ρ src=.ok xs) (hi:items k xs=.ok ds) (h:forGo (fun ρ'=>exs cf ρ' body) t ds ρ=.ok o):ex cf ρ (.for_ t k src body)=.ok o:=by
 rw [xE9,hs,bindK,hi];exact h
theorem zH {body:Slots->Res Out} {t:Tgt} {d:PV} {ds:List PV} {ρ ρ1 ρ2:Slots} (h1:setTgt t d ρ=.ok ρ1) (h2:body ρ1=.ok (.next ρ2)):forGo body t (d::ds) ρ=forGo body t ds ρ2:=by
 simp only [forC,h1,bindK,h2]
theorem ex_append {cf:Nat->List PV->Res PV} {ρ:Slots} {i:Nat} {e:PE} {l:List PV} {d:PV} (h0:slot ρ i=.ok (.list l)) (h1:ev cf ρ e=.ok d) (h2:l.length < lim):ex cf ρ (.append i e)=.ok (.next (ρ.set i (some (.list (l++[d]))))):=by
 rw [xE5,h0]
 show (ev cf ρ e).bind _=_
 rw [h1]
 show (if decide (l.length < lim)=true then _ else _)=_
 rw [if_pos (decide_eq_true h2)]
theorem ev_mul {cf:Nat->List PV->Res PV} {ρ:Slots} {a b:PE} {x y:Int} (h1:ev cf ρ a=.ok (.int x)) (h2:ev cf ρ b=.ok (.int y)) (hx:big x=false) (hy:big y=false):ev cf ρ (.bin .mul a b)=.ok (.int (x*y)):=by
 rw [vE6,h1]
 show (ev cf ρ b).bind _=_
 rw [h2]
 show (if (big x||big y)=true then _ else _)=_
 rw [hx,hy];rfl
theorem ex_ite {cf:Nat->List PV->Res PV} {ρ:Slots} {c:PE} {a b:List PS} {t:Bool} (h:ev cf ρ c=.ok (.bool t)):ex cf ρ (.ite c a b)=if t=true then exs cf ρ a else exs cf ρ b:=by
 rw [xE8,h];rfl
theorem zF {cf:Nat->List PV->Res PV} {ρ:Slots} {f:Nat} {l:List PE} {xs:List PV} {d:PV} (h1:evs cf ρ l=.ok xs) (h2:cf f xs=.ok d):ev cf ρ (.call f false l)=.ok d:=by
 rw [vE19,h1]
 show (cf f xs).bind _=_
 rw [h2];rfl
theorem zE {cf:Nat->List PV->Res PV} {ρ:Slots} {i:Nat} {e:PE} {d:PV} (h:ev cf ρ e=.ok d):ex cf ρ (.assign i e)=.ok (.next (ρ.set i (some d))):=by
 rw [xE1,h];rfl
theorem ex_update {cf:Nat->List PV->Res PV} {ρ:Slots} {i:Nat} {e:PE} {l m:List (Key×PV)} (h0:slot ρ i=.ok (.dict l)) (h1:ev cf ρ e=.ok (.dict m)) (hc:(dfits l (.tup [])&&dfits m (.tup [])&&decide (l.length+m.length < lim)&&(!l.isEmpty||decide ((m.map fun p=>khash p.1).Nodup)))=true):
  ex cf ρ (.update i e)=.ok (.next (ρ.set i (some (.dict (dupd l m))))):=by
 rw [xE6,h0]
 show (ev cf ρ e).bind _=_
 rw [h1]
 exact if_pos hc
theorem items_range (n:Int):items .range1 [.int n]=(if (decide (0<=n)&&decide (n<=(lim:Nat)))=true then Res.ok (upto 0 n) else .stuck):=rfl
theorem ex_skip {cf:Nat->List PV->Res PV} {ρ:Slots} {c:PE} {a:List PS} (h:ev cf ρ c=.ok (.bool false)):ex cf ρ (.ite c a [])=.ok (.next ρ):=by
 rw [xE8,h];rfl
theorem ex_setItem {cf:Nat->List PV->Res PV} {ρ:Slots} {i:Nat} {k v:PE} {l:List (Key×PV)} {d kk:PV} {key:Key} (h0:slot ρ i=.ok (.dict l)) (hv:ev cf ρ v=.ok d) (hk:ev cf ρ k=.ok kk) (hkk:kk.key?=some key) (hf:dfits l key=true) (hl:l.length < lim):ex cf ρ (.setItem i k v)=.ok (.next (ρ.set i (some (.dict (dput l key d))))):=by
 rw [xE4,hv]
 show (slot ρ i).bind _=_
 rw [h0]
 show (ev cf ρ k).bind _=_
 rw [hk]
 show (match kk.key? with | some k=>if (dfits l k&&decide (l.length < lim))=true then _ else _ | none=>_)=_
 rw [hkk]
 show (if (dfits l key&&decide (l.length < lim))=true then _ else _)=_
 rw [hf,decide_eq_true hl];rfl
theorem isin_int {l:List (Key×PV)} {i:Int} (h:dfits l (.int i)=true):isin (.int i) (.dict l)=.ok (dhas l (.int i)):=if_pos h
noncomputable def sI (x:Nat×Bool):PV:=.tuple [.int x.1,.int (if x.2 then 1 else -1)]
noncomputable def dT (ts:List Int):List (Key×PV):=ts.zipIdx.map fun p=>(Key.int ((p.2:Int)+1),PV.int p.1)
theorem cell_at {n k:Nat} (ns:List Int):∃ x,callN zA (n+1) 20 [.list (ns.map .int),.int k]=.ok (.int x):=by
 rw [c2 (by rfl)]
 by_cases h:k < ns.length
 ·refine ⟨ns[k],?_⟩
  simp [runFn,f9__law_cell_at,exsN,exsC,xE8,xE11,vE1,vE2,vE9,vE14,vE20,evsN,evsC,slot,bindK,int2K,copLt,int2K,prLen,p1K,lenL,getIdxL,outR,h]
 ·refine ⟨0,?_⟩
  simp [runFn,f9__law_cell_at,exsN,exsC,xE8,xE11,vE1,vE2,vE9,vE14,vE20,evsN,evsC,slot,bindK,int2K,copLt,int2K,prLen,p1K,lenL,getIdxL,outR,h]
theorem ints_map:∀ (l:List Int),PV.ints? (l.map PV.int)=some l
 | []=>rfl
 | i::l=>by simp [intsC,ints_map l]
theorem dT_fits {ts:List Int} {i:Int}:dfits (dT ts) (.int i)=true:=by
 simp [dfits,dT,sameII]
theorem dT_go {t:Int}:∀ {ts:List Int} {k j:Nat},ts[k]?=some t->((ts.zipIdx j).map fun p=>(Key.int ((p.2:Int)+1),PV.int p.1)).find? (fun p=>p.1=Key.int ((j:Int)+k+1))=some (Key.int ((j:Int)+k+1),PV.int t)
 | [],_,_,h=>by simp at h
 | a::ts,0,j,h=>by simp at h;subst h;simp
 | a::ts,k+1,j,h=>by
  have:=dT_go (ts:=ts) (k:=k) (j:=j+1) (by simpa using h)
  simp only [List.zipIdx_cons,List.map_cons,List.find?_cons]
  have hne:¬ (Key.int ((j:Int)+1)=Key.int ((j:Int)+((k+1:Nat):Int)+1)):=by simp;exact o143
  simp only [decide_eq_false hne]
  have e:((j+1:Nat):Int)+k+1=(j:Int)+((k+1:Nat):Int)+1:=by exact o144
  rw [e] at this
  exact this
theorem dT_get {ts:List Int} {k:Nat} {t:Int} (h:ts[k]?=some t):dget (dT ts) (.int ((k:Int)+1))=some (.int t):=by
 have:=dT_go (j:=0) h
 simp only [Int.natCast_zero,Int.zero_add] at this
 unfold dget dT;rw [this];rfl
noncomputable def sbR:List PS:=f9_side_behind.body.drop 3
theorem sb_known {cf:Nat->List PV->Res PV} {L:List Int} {T:List (Key×PV)} {g w v:Int} {r:List PS} {a b:PE}
  (hc:ev cf [some (.list (L.map .int)),some (.dict T),some (.tuple [.int g,.int w]),some (.int g),some (.int w),none,none,none,none,none,none,none,none,none] a=.ok (.bool false))
  (hb:ev cf [some (.list (L.map .int)),some (.dict T),some (.tuple [.int g,.int w]),some (.int g),some (.int w),none,none,none,none,none,none,none,none,none] b=.ok (.int v)) {x:List PS}:
  exs cf [some (.list (L.map .int)),some (.dict T),some (.tuple [.int g,.int w]),none,none,none,none,none,none,none,none,none,none,none] (.unpack [3,4] (.var 2)::.ite a x []::.assign 5 b::r) =
  exs cf [some (.list (L.map .int)),some (.dict T),some (.tuple [.int g,.int w]),some (.int g),some (.int w),some (.int v),none,none,none,none,none,none,none,none] r:=by
 refine (zB (ρ':=[some (.list (L.map .int)),some (.dict T),some (.tuple [.int g,.int w]),some (.int g),some (.int w),none,none,none,none,none,none,none,none,none]) rfl).trans ((zB (by rw [xE8,hc];rfl)).trans (zB ?_))
 rw [xE1]
 exact congrArg (fun r=>Res.bind r _) hb
theorem sb_mark0 {cf:Nat->List PV->Res PV} {A B C:Option PV} {g w:Int}:exs cf [A,B,C,some (.int g),some (.int w),some (.int 0),none,none,none,none,none,none,none,none] sbR=.ok (.ret (.tuple [.int (g+w),.int w])):=rfl
theorem sb_turn {cf:Nat->List PV->Res PV} {C:Option PV} {L:List Int} {T:List (Key×PV)} {g w v t:Int} {k:Nat} (hw:w=1\/w=-1) (hv:v≠0) (ht:t=1\/t=-1) (hf:dfits T (.int (absI v))=true) (hd:dget T (.int (absI v))=some (.int t)) (hi:L.idxOf? (-v)=some k):
  exs cf [some (.list (L.map .int)),some (.dict T),C,some (.int g),some (.int w),some (.int v),none,none,none,none,none,none,none,none] sbR=.ok (.ret (if w*(if v < 0 then -t else t)=1 then .tuple [.int (k+1),.int 1] else .tuple [.int k,.int (-1)])):=by
 have e1:ev cf [some (.list (L.map .int)),some (.dict T),C,some (.int g),some (.int w),some (.int v),none,none,none,none,none,none,none,none] (.bin .mul (.var 4) (.idx (.var 1) (.prim .abs [(.var 5)])))=.ok (.int (w*t)):=by
  show (if dfits T (.int (absI v))=true then (match dget T (.int (absI v)) with | some d=>Res.ok d | none=>.stuck) else .stuck).bind (fun y=>binop .mul (.int w) y)=_
  rw [if_pos hf,hd]
  rcases hw with rfl | rfl<;>rcases ht with rfl | rfl<;>rfl
 have e2:∀ x,ev cf [some (.list (L.map .int)),some (.dict T),C,some (.int g),some (.int w),some (.int v),x,none,none,none,none,none,none,none] (.index (.var 0) (.bin .sub (.const (.int 0)) (.var 5)))=.ok (.int k):=by
  intro x
  have:indexIn (L.map .int) (.int (0-v))=.ok (.int k):=by simp only [indexIn,ints_map,Int.zero_sub,hi]
  exact this
 have e0:(v==0)=false:=by simpa using hv
 refine (zB (ρ':=[some (.list (L.map .int)),some (.dict T),C,some (.int g),some (.int w),some (.int v),none,none,none,none,none,none,none,none]) ?_).trans ?_
 ·show (if (v==0)=true then _ else _)=_
  rw [e0];rfl
 refine (zB (ρ':=[some (.list (L.map .int)),some (.dict T),C,some (.int g),some (.int w),some (.int v),some (.int (w*t)),none,none,none,none,none,none,none]) ?_).trans ?_
 ·rw [xE1,e1];rfl
 refine (zB (ρ':=[some (.list (L.map .int)),some (.dict T),C,some (.int g),some (.int w),some (.int v),some (.int (w*(if v < 0 then -t else t))),none,none,none,none,none,none,none]) ?_).trans ?_
 ·show (if decide (v < 0)=true then _ else _)=_
  by_cases hn:v < 0
  ·rw [if_pos (decide_eq_true hn),if_pos hn,Int.mul_neg,<-Int.zero_sub];rfl
  ·rw [if_neg (by simpa using hn),if_neg hn];rfl
 generalize w*(if v < 0 then -t else t)=u
 refine (zB (ρ':=[some (.list (L.map .int)),some (.dict T),C,some (.int g),some (.int w),some (.int v),some (.int u),some (.int k),none,none,none,none,none,none]) ?_).trans ?_
 ·rw [xE1,e2];rfl
 by_cases hu:u=1
 ·subst hu;exact exs_r rfl
 ·rw [if_neg hu]
  refine (zB (ρ':=[some (.list (L.map .int)),some (.dict T),C,some (.int g),some (.int w),some (.int v),some (.int u),some (.int k),none,none,none,none,none,none]) ?_).trans (exs_r rfl)
  show (if (u==1)=true then _ else _)=_
  rw [show (u==1)=false by simpa using hu];rfl
theorem sb_run {n:Nat} {A:List PV} {d:PV} (ha:A.length=3) (h:exs (callN zA n) (A.map some++[none,none,none,none,none,none,none,none,none,none,none]) f9_side_behind.body=.ok (.ret d)):callN zA (n+1) 0 A=.ok d:=by
 rw [c2 (by rfl)];exact run2 (o:=.ret d) ha rfl h
theorem sb_f {n:Nat} {L:List Int} {T:List (Key×PV)} {g:Nat} {v:Int} {d:PV} (h:L[g]?=some v) (hr:∀ cf,exs cf [some (.list (L.map .int)),some (.dict T),some (.tuple [.int g,.int 1]),some (.int g),some (.int 1),some (.int v),none,none,none,none,none,none,none,none] sbR=.ok (.ret d)):
  callN zA (n+1) 0 [.list (L.map .int),.dict T,.tuple [.int g,.int 1]]=.ok d:=by
 have hl:=(List.getElem?_eq_some_iff.1 h).1
 refine sb_run rfl (Eq.trans (sb_known (v:=v) ?_ ?_) (hr _))
 ·have h1:¬ ((g:Int)=L.length):=by exact o145 hl
  simp [vE1,vE2,vE7,vE9,vE11,vE12,vE20,evsN,evsC,evAndN,evAndC,evOrN,evOrC,slot,bindK,copE,prLen,p1K,lenL,eqII,flatI,depI,h1]
 ·show (if (0:Int)<=g then (match (L.map PV.int)[(g:Int).toNat]? with | some d=>Res.ok d | none=>.stuck) else .stuck)=_
  rw [if_pos (Int.natCast_nonneg g),Int.toNat_natCast,List.getElem?_map,h];rfl
theorem sb_b {n:Nat} {L:List Int} {T:List (Key×PV)} {g:Nat} {v:Int} {d:PV} (h:L[g]?=some v) (hr:∀ cf,exs cf [some (.list (L.map .int)),some (.dict T),some (.tuple [.int (g+1),.int (-1)]),some (.int (g+1)),some (.int (-1)),some (.int v),none,none,none,none,none,none,none,none] sbR=.ok (.ret d)):
  callN zA (n+1) 0 [.list (L.map .int),.dict T,.tuple [.int (g+1),.int (-1)]]=.ok d:=by
 refine sb_run rfl (Eq.trans (sb_known (v:=v) ?_ ?_) (hr _))
 ·have h1:¬ ((g:Int)+1=0):=by exact o133
  simp [vE1,vE2,vE7,vE9,vE11,vE12,vE20,evsN,evsC,evAndN,evAndC,evOrN,evOrC,slot,bindK,copE,prLen,p1K,lenL,eqII,flatI,depI,h1]
 ·show (if (0:Int)<=(g:Int)+1-1 then (match (L.map PV.int)[((g:Int)+1-1).toNat]? with | some d=>Res.ok d | none=>.stuck) else .stuck)=_
  rw [show (g:Int)+1-1=g by exact o147,if_pos (Int.natCast_nonneg g),Int.toNat_natCast,List.getElem?_map,h];rfl
theorem sb_end {n:Nat} {L:List Int} {T:List (Key×PV)}:callN zA (n+1) 0 [.list (L.map .int),.dict T,.tuple [.int L.length,.int 1]]=.ok (.tuple [.int L.length,.int (-1)]):=by
 refine sb_run rfl ((zB (ρ':=[some (.list (L.map .int)),some (.dict T),some (.tuple [.int L.length,.int 1]),some (.int L.length),some (.int 1),none,none,none,none,none,none,none,none,none]) rfl).trans (exs_r ?_))
 simp [exsN,exsC,xE8,xE11,vE1,vE2,vE3,vE6,vE7,vE9,vE11,vE12,vE20,evsN,evsC,evAndN,evAndC,evOrN,evOrC,slot,bindK,bopS,int2K,copE,prLen,p1K,lenL,eqII,flatI,depI,mkT,lim]
theorem sb_start {n:Nat} {L:List Int} {T:List (Key×PV)}:callN zA (n+1) 0 [.list (L.map .int),.dict T,.tuple [.int 0,.int (-1)]]=.ok (.tuple [.int 0,.int 1]):=sb_run rfl rfl
theorem sb_mark {n g:Nat} {L:List Int} {T:List (Key×PV)} (h:L[g]?=some 0):callN zA (n+1) 0 [.list (L.map .int),.dict T,.tuple [.int g,.int 1]]=.ok (.tuple [.int (g+1),.int 1]):=sb_f h fun _=>sb_mark0
theorem sb_mark' {n g:Nat} {L:List Int} {T:List (Key×PV)} (h:L[g]?=some 0):callN zA (n+1) 0 [.list (L.map .int),.dict T,.tuple [.int (g+1),.int (-1)]]=.ok (.tuple [.int g,.int (-1)]):=by
 have:=sb_b (n:=n) (T:=T) h fun _=>sb_mark0
 rwa [show (g:Int)+1+-1=g by exact o146] at this
theorem sb_fwd {n g k:Nat} {v t:Int} {L:List Int} {T:List (Key×PV)} (h:L[g]?=some v) (hv:v≠0) (ht:t=1\/t=-1) (hf:dfits T (.int (absI v))=true) (hd:dget T (.int (absI v))=some (.int t)) (hi:L.idxOf? (-v)=some k):
  callN zA (n+1) 0 [.list (L.map .int),.dict T,.tuple [.int g,.int 1]]=.ok (if (if v < 0 then -t else t)=1 then .tuple [.int (k+1),.int 1] else .tuple [.int k,.int (-1)]):=by
 have:=sb_f (n:=n) (T:=T) h fun _=>sb_turn (.inl rfl) hv ht hf hd hi
 rwa [Int.one_mul] at this
theorem sb_bwd {n g k:Nat} {v t:Int} {L:List Int} {T:List (Key×PV)} (h:L[g]?=some v) (hv:v≠0) (ht:t=1\/t=-1) (hf:dfits T (.int (absI v))=true) (hd:dget T (.int (absI v))=some (.int t)) (hi:L.idxOf? (-v)=some k):
  callN zA (n+1) 0 [.list (L.map .int),.dict T,.tuple [.int (g+1),.int (-1)]]=.ok (if (if v < 0 then -t else t)=1 then .tuple [.int k,.int (-1)] else .tuple [.int (k+1),.int 1]):=by
 have:=sb_b (n:=n) (T:=T) h fun _=>sb_turn (.inr rfl) hv ht hf hd hi
 rw [this]
 have hu:(if v < 0 then -t else t)=1\/(if v < 0 then -t else t)=-1:=by rcases ht with rfl | rfl<;>split<;>simp
 rcases hu with h | h<;>rw [h]<;>rfl
end Mine.Internal
end
section
namespace Mine.Internal
open PySem
noncomputable def kI (x:Nat×Bool):Key:=.tup [(x.1:Int),if x.2 then 1 else -1]
noncomputable def dF (F:List (Nat×Bool)):List (Key×PV):=F.map fun y=>(kI y,PV.bool true)
theorem kI_inj {x y:Nat×Bool} (h:kI x=kI y):x=y:=by
 obtain ⟨a,b⟩:=x;obtain ⟨c,d⟩:=y
 simp [kI] at h
 cases b<;>cases d<;>simp at h ⊢<;>exact o148 h
theorem sI_key (x:Nat×Bool):(sI x).key?=some (kI x):=by
 simp [sI,kI,keyT,intsN,intsC]
theorem dF_fits {F:List (Nat×Bool)} {l:List Int}:dfits (dF F) (.tup l)=true:=by
 simp [dfits,dF,sameTT,kI]
theorem dF_fits' {F:List (Nat×Bool)} {x:Nat×Bool}:dfits (dF F) (kI x)=true:=dF_fits
theorem dF_has {F:List (Nat×Bool)} {x:Nat×Bool}:dhas (dF F) (kI x)=decide (x∈F):=by
 rw [Bool.eq_iff_iff]
 unfold dhas dF
 rw [List.any_eq_true,decide_eq_true_iff]
 constructor
 ·rintro ⟨p,hp,e⟩
  obtain ⟨y,hy,rfl⟩:=List.mem_map.1 hp
  have:=kI_inj (of_decide_eq_true e)
  rw [<-this];exact hy
 ·intro h;exact ⟨(kI x,.bool true),List.mem_map.2 ⟨x,h,rfl⟩,by simp⟩
theorem dF_put {F:List (Nat×Bool)} {x:Nat×Bool} (h:x∉F):dput (dF F) (kI x) (.bool true)=dF (F++[x]):=by
 unfold dput;rw [dF_has];simp [h,dF]
theorem dF_upd {G:List (Nat×Bool)}:∀ {F:List (Nat×Bool)} ,F.Nodup->(∀ x∈F,x∉G)->dupd (dF G) (dF F)=dF (G++F)
 | [],_,_=>by simp [dupd,dF]
 | x::F,hn,hd=>by
  have h1:=List.nodup_cons.1 hn
  have:dupd (dF (G++[x])) (dF F)=dF (G++[x]++F):=dF_upd h1.2 (fun y hy=>by
   simp;exact ⟨hd y (by simp [hy]),by rintro rfl;exact h1.1 hy⟩)
  rw [List.append_assoc] at this
  show dupd (dput (dF G) (kI x) (.bool true)) (dF F)=_
  rw [dF_put (hd x (by simp)),this];rfl
theorem isin_dF {F:List (Nat×Bool)} {x:Nat×Bool}:isin (sI x) (.dict (dF F))=.ok (decide (x∈F)):=by
 simp [isin,sI_key,dF_fits',dF_has]
theorem whileGo_t {test:Slots->Res PV} {body:Slots->Res Out} {k:Nat} {ρ ρ':Slots} (h1:test ρ=.ok (.bool true)) (h2:body ρ=.ok (.next ρ')):whileGo test body (k+1) ρ=whileGo test body k ρ':=by
 show (test ρ).bind _=_
 rw [h1]
 show (body ρ).bind _=_
 rw [h2];rfl
theorem whileGo_f {test:Slots->Res PV} {body:Slots->Res Out} {k:Nat} {ρ:Slots} (h1:test ρ=.ok (.bool false)):whileGo test body (k+1) ρ=.ok (.next ρ):=by
 show (test ρ).bind _=_
 rw [h1];rfl
theorem nodup_snoc {α:Type} {l:List α} {x:α} (h:l.Nodup) (hx:x∉l):(l++[x]).Nodup:=
 List.nodup_append.2 ⟨h,List.nodup_cons.2 ⟨List.not_mem_nil,List.nodup_nil⟩,fun a ha b hb e=>hx (by rw [<-List.mem_singleton.1 hb,<-e];exact ha)⟩
theorem idxOf?_mem {L:List Int} {k:Int} (h:k∈L):L.idxOf? k=some (L.idxOf k):=by
 have h1:L.idxOf k < L.length:=List.idxOf_lt_length_of_mem h
 cases e:L.idxOf? k with
 | none=>rw [List.idxOf?_eq_none_iff] at e;exact absurd h e
 | some a=>
  have h2:=e
  rw [List.idxOf?,List.findIdx?_eq_some_iff_getElem] at h2
  obtain ⟨ha,hk,hj⟩:=h2
  rcases Nat.lt_trichotomy (L.idxOf k) a with q | q | q
  ·exact absurd (hj _ q) (by rw [List.getElem_idxOf h1];simp)
  ·rw [q]
  ·have:=List.not_of_lt_findIdx (p:=(·==k)) (xs:=L) (i:=a) q
   exact absurd hk (by simpa using this)
structure RU (L us:List Int):Prop where
 row:Row L (qU us)
 lt:∀ v∈L,v≠0->absI v<=us.length
 ok:∀ t∈us,t=1\/t=-1
section
variable {L us:List Int}
theorem RU.tn (o:RU L us) (v:Int) (hv:v∈L) (h0:v≠0):∃ t:Int,(t=1\/t=-1)/\dget (dT us) (.int (absI v))=some (.int t)/\qU us v=if v < 0 then -t else t:=by
 have h1:=o.lt v hv h0
 have h2:0 < absI v:=by unfold absI;split<;>(first | exact xp103 (by assumption) | exact xp104 h0 (by assumption))
 obtain ⟨j,hj⟩:∃ j:Nat,absI v=(j:Int)+1:=⟨(absI v-1).toNat,(tn4 h2).symm⟩
 have h3:j < us.length:=by exact xp139 h1 hj
 refine ⟨us[j],o.ok _ (List.getElem_mem h3),?_,?_⟩
 ·rw [hj];exact dT_get (List.getElem?_eq_getElem h3)
 ·unfold qU;rw [hj,show ((j:Int)+1-1).toNat=j from tn1,List.getD_eq_getElem?_getD,List.getElem?_eq_getElem h3];rfl
theorem RU.ix (o:RU L us) {v:Int} (hv:v∈L):L.idxOf? (-v)=some (L.idxOf (-v)):=idxOf?_mem (o.row.neg v hv)
theorem side_row (o:RU L us) {n:Nat} {x:Sd} (hx:x∈rsd L):callN zA (n+1) 0 [.list (L.map .int),.dict (dT us),sI x]=.ok (sI (rnx L (qU us) x)):=by
 obtain ⟨g,b⟩:=x
 have hx:=mem_rsd.1 hx
 cases b with
 | true=>
  cases h:L[g]? with
  | none=>
   have hg:g=L.length:=Nat.le_antisymm (Nat.le_of_lt_succ hx) (List.getElem?_eq_none_iff.1 h)
   rw [rn_te h,hg];exact sb_end
  | some v=>
   have hv:=List.mem_of_getElem? h
   rw [rn_t h]
   by_cases h0:v=0
   ·subst h0;rw [if_pos rfl];exact sb_mark h
   ·obtain ⟨t,ht,hd,e⟩:=o.tn v hv h0
    rw [if_neg h0,e]
    refine (sb_fwd h h0 ht dT_fits hd (o.ix hv)).trans ?_
    generalize (if v < 0 then -t else t)=u
    by_cases hu:u=1
    ·rw [if_pos hu,if_pos hu];rfl
    ·rw [if_neg hu,if_neg hu];rfl
 | false=>
  cases g with
  | zero=>exact sb_start
  | succ g=>
   have h:=List.getElem?_eq_getElem (Nat.lt_of_succ_lt_succ hx)
   generalize L[g]'(Nat.lt_of_succ_lt_succ hx)=v at h
   have hv:=List.mem_of_getElem? h
   rw [rn_f h]
   by_cases h0:v=0
   ·subst h0;rw [if_pos rfl];exact sb_mark' h
   ·obtain ⟨t,ht,hd,e⟩:=o.tn v hv h0
    rw [if_neg h0,e]
    refine (sb_bwd h h0 ht dT_fits hd (o.ix hv)).trans ?_
    generalize (if v < 0 then -t else t)=u
    by_cases hu:u=1
    ·rw [if_pos hu,if_pos hu];rfl
    ·rw [if_neg hu,if_neg hu];rfl
theorem face_whileR (o:RU L us) (hm:L.length<=1000) {n:Nat} {F':List Sd}:∀ {k:Nat} {F:List Sd} {x:Sd},x∈rsd L->F.Nodup->(∀ y∈F,y∈rsd L)->walk (rnx L (qU us)) k F x=some F' ->
  ∃ y,whileGo (fun ρ'=>ev (callN zA (n+1)) ρ' (.cmp .notIn (.var 2) (.var 3))) (fun ρ'=>exs (callN zA (n+1)) ρ' [(.setItem 3 (.var 2) (.const (.bool true))),(.assign 2 (.call 0 false [(.var 0),(.var 1),(.var 2)]))]) k
   [some (.list (L.map .int)),some (.dict (dT us)),some (sI x),some (.dict (dF F)),none,none,none,none,none,none]=.ok (.next [some (.list (L.map .int)),some (.dict (dT us)),y,some (.dict (dF F')),none,none,none,none,none,none])
 | 0,F,x,hx,hn,hF,h=>by cases h
 | k+1,F,x,hx,hn,hF,h=>by
  have ht:∀ b,decide (x∈F)=b->ev (callN zA (n+1)) [some (.list (L.map .int)),some (.dict (dT us)),some (sI x),some (.dict (dF F)),none,none,none,none,none,none] (.cmp .notIn (.var 2) (.var 3))=.ok (.bool (!b)):=fun b hb=>by
   show (((isin (sI x) (.dict (dF F))).bind _).bind _)=_
   rw [isin_dF,hb];rfl
  rw [walkS] at h
  by_cases hxF:x∈F
  ·rw [if_pos hxF] at h;cases h
   exact ⟨some (sI x),whileGo_f (ht true (decide_eq_true hxF))⟩
  ·rw [if_neg hxF] at h
   obtain ⟨y,hy⟩:=face_whileR o hm (n:=n) (k:=k) (F:=F++[x]) (x:=rnx L (qU us) x) (rnx_mem o.row x hx) (nodup_snoc hn hxF) (fun y hy=>(List.mem_append.1 hy).elim (hF y) fun h=>by rw [List.mem_singleton.1 h];exact hx) h
   refine ⟨y,Eq.trans (whileGo_t (ht false (decide_eq_false hxF)) ?_) hy⟩
   have hl:=nodup_le hn hF
   rw [rsd_len] at hl
   have hl2:(dF F).length < lim:=by rw [dF,List.length_map,lim];exact xo10 hm hl
   refine (zB (ex_setItem (l:=dF F) rfl rfl rfl (sI_key x) dF_fits' hl2)).trans ((zB (zE (zF rfl (side_row o (n:=n) hx)))).trans ?_)
   rw [exs_0,dF_put hxF];rfl
theorem face_row (o:RU L us) (hm:L.length<=1000) {n:Nat} {x:Sd} (hx:x∈rsd L):callN zA (n+2) 1 [.list (L.map .int),.dict (dT us),sI x]=.ok (.dict (dF (orR L (qU us) x))):=by
 obtain ⟨y,hy⟩:=face_whileR o hm (n:=n) (k:=fuel) (F:=[]) hx List.nodup_nil (fun _ h=>absurd h List.not_mem_nil) (orR_is o.row hm hx).1
 rw [c2 (by rfl)]
 refine run2 (o:=.ret _) (ρ:=[some (.list (L.map .int)),some (.dict (dT us)),some (sI x),none,none,none,none,none,none,none]) rfl rfl ?_
 refine (zB (ρ':=[some (.list (L.map .int)),some (.dict (dT us)),some (sI x),some (.dict (dF [])),none,none,none,none,none,none]) rfl).trans ?_
 exact (zB (ex_while hy)).trans (exs_r rfl)
theorem hsh_nodup {S:List (Nat×Bool)} {hsh:Key->Int} (h:∀ y∈S,∀ z∈S,hsh (kI y)=hsh (kI z)->y=z):∀ {F:List (Nat×Bool)},F.Nodup->(∀ y∈F,y∈S)->((dF F).map fun p=>hsh p.1).Nodup
 | [],_,_=>by simp [dF]
 | x::F,hn,hF=>by
  have h1:=List.nodup_cons.1 hn
  show (hsh (kI x)::(dF F).map fun p=>hsh p.1).Nodup
  refine List.nodup_cons.2 ⟨?_,hsh_nodup h h1.2 (fun y hy=>hF y (by simp [hy]))⟩
  intro hm
  simp only [dF,List.map_map] at hm
  obtain ⟨y,hy,e⟩:=List.mem_map.1 hm
  have:=h y (hF y (by simp [hy])) x (hF x (by simp)) e
  subst this;exact h1.1 hy
structure RI (L:List Int) (q:Int->Int) (G:List Sd) (c:Nat):Prop where
 nd:G.Nodup
 sub:∀ y∈G,y∈rsd L
 rs:∃ rs:List Sd,rs.length=c/\(∀ r∈rs,r∈rsd L)/\rs.Pairwise (fun a b=>¬ Reach (rnx L q) a b)/\∀ y,y∈G↔∃ r∈rs,Reach (rnx L q) r y
theorem RI.nil {q:Int->Int}:RI L q [] 0:=⟨List.nodup_nil,fun _ h=>absurd h List.not_mem_nil,[],rfl,fun _ h=>absurd h List.not_mem_nil,.nil,fun _=>⟨fun h=>absurd h List.not_mem_nil,fun ⟨_,h,_⟩=>absurd h List.not_mem_nil⟩⟩
theorem RI.apart {q:Int->Int} (o:Row L q) (hm:L.length<=1000) {G:List Sd} {c:Nat} (I:RI L q G c) {x:Sd} (hx:x∈rsd L) (hG:x∉G):∀ y∈orR L q x,y∉G:=fun y hy hyG=>by
 obtain ⟨rs,_,_,_,h4⟩:=I.rs
 obtain ⟨r,hr,e⟩:=(h4 y).1 hyG
 exact hG ((h4 x).2 ⟨r,hr,e.trans (rch_symm o hx (((orR_is o hm hx).2.2.2 y).1 hy))⟩)
theorem RI.step {q:Int->Int} (o:Row L q) (hm:L.length<=1000) {G:List Sd} {c:Nat} (I:RI L q G c) {x:Sd} (hx:x∈rsd L) (hG:x∉G):RI L q (G++orR L q x) (c+1):=by
 obtain ⟨_,h2,h3,h4⟩:=orR_is o hm hx
 have ap:=I.apart o hm hx hG
 obtain ⟨rs,k1,k2,k3,k4⟩:=I.rs
 refine ⟨List.nodup_append.2 ⟨I.nd,h2,fun a ha b hb e=>ap b hb (e ▸ ha)⟩,fun y hy=>(List.mem_append.1 hy).elim (I.sub y) (h3 y),rs++[x],by rw [List.length_append,k1];rfl,fun r hr=>(List.mem_append.1 hr).elim (k2 r) fun h=>List.mem_singleton.1 h ▸ hx,?_,fun y=>?_⟩
 ·refine List.pairwise_append.2 ⟨k3,List.pairwise_cons.2 ⟨fun _ h=>absurd h List.not_mem_nil,.nil⟩,fun r hr b hb e=>hG ((k4 x).2 ⟨r,hr,List.mem_singleton.1 hb ▸ e⟩)⟩
 ·rw [List.mem_append,k4,h4]
  exact ⟨fun h=>h.elim (fun ⟨r,hr,e⟩=>⟨r,List.mem_append_left _ hr,e⟩) fun e=>⟨x,List.mem_append_right _ (List.mem_singleton.2 rfl),e⟩,fun ⟨r,hr,e⟩=>(List.mem_append.1 hr).imp (fun h=>⟨r,h,e⟩) fun h=>by rw [List.mem_singleton.1 h] at e;exact e⟩
noncomputable def fcB:List PS:=[(.ite (.cmp .notIn (.tup [(.var 4),(.var 5)]) (.var 2)) [(.update 2 (.call 1 false [(.var 0),(.var 1),(.tup [(.var 4),(.var 5)])])),(.assign 3 (.bin .add (.var 3) (.const (.int 1))))] [])]
noncomputable def fcρ (L us:List Int) (G:List Sd) (c:Nat) (g v:Option PV):Slots:=[some (.list (L.map .int)),some (.dict (dT us)),some (.dict (dF G)),some (.int c),g,v,none,none,none,none,none,none]
theorem fc_step (o:RU L us) (hm:L.length<=1000) (hh:∀ y∈rsd L,∀ z∈rsd L,khash (kI y)=khash (kI z)->y=z) {n:Nat} {G:List Sd} {c:Nat} (I:RI L (qU us) G c) {x:Sd} (hx:x∈rsd L):
  ∃ G' c',RI L (qU us) G' c'/\x∈G'/\(∀ y∈G,y∈G')/\exs (callN zA (n+2)) (fcρ L us G c (some (.int x.1)) (some (.int (if x.2 then 1 else -1)))) fcB=.ok (.next (fcρ L us G' c' (some (.int x.1)) (some (.int (if x.2 then 1 else -1))))):=by
 have e1:isin (.tuple [.int x.1,.int (if x.2 then 1 else -1)]) (.dict (dF G))=.ok (decide (x∈G)):=isin_dF
 by_cases hG:x∈G
 ·refine ⟨G,c,I,hG,fun _ h=>h,(zB (ex_skip ?_)).trans exs_0⟩
  show (((isin (.tuple [.int x.1,.int (if x.2 then 1 else -1)]) (.dict (dF G))).bind _).bind _)=_
  rw [e1,decide_eq_true hG];rfl
 ·obtain ⟨_,h2,h3,h4⟩:=orR_is o.row hm hx
  refine ⟨G++orR L (qU us) x,c+1,I.step o.row hm hx hG,List.mem_append_right _ ((h4 x).2 (.refl x)),fun y hy=>List.mem_append_left _ hy,?_⟩
  have hl1:=nodup_le I.nd I.sub
  have hl2:=nodup_le h2 h3
  rw [rsd_len] at hl1 hl2
  have h5:(dF G).length+(dF (orR L (qU us) x)).length < lim:=by rw [dF,dF,List.length_map,List.length_map,lim];exact xp140 hm hl1 hl2
  have hc:(dfits (dF G) (.tup [])&&dfits (dF (orR L (qU us) x)) (.tup [])&&decide ((dF G).length+(dF (orR L (qU us) x)).length < lim)&&(!(dF G).isEmpty||decide (((dF (orR L (qU us) x)).map fun p=>khash p.1).Nodup)))=true:=by
   rw [dF_fits,dF_fits,decide_eq_true h5,decide_eq_true (hsh_nodup (hsh:=khash) hh h2 h3),Bool.or_true];rfl
  have h1':callN zA (n+2) 1 [.list (L.map .int),.dict (dT us),.tuple [.int x.1,.int (if x.2 then 1 else -1)]]=.ok (.dict (dF (orR L (qU us) x))):=face_row o hm hx
  refine (zB ?_).trans exs_0
  have c':ev (callN zA (n+2)) (fcρ L us G c (some (.int x.1)) (some (.int (if x.2 then 1 else -1)))) (.cmp .notIn (.tup [(.var 4),(.var 5)]) (.var 2))=.ok (.bool true):=by
   show (((isin (.tuple [.int x.1,.int (if x.2 then 1 else -1)]) (.dict (dF G))).bind _).bind _)=_
   rw [e1,decide_eq_false hG];rfl
  rw [ex_ite c',if_pos rfl]
  refine (zB (ex_update (l:=dF G) rfl (zF rfl h1') hc)).trans ((zB rfl).trans ?_)
  rw [exs_0,dF_upd h2 (I.apart o.row hm hx hG)];rfl
noncomputable def fcO:List PS:=[(.for_ (.one 5) .seq [(.tup [(.const (.int 1)),(.neg (.const (.int 1)))])] fcB)]
theorem fc_outer (o:RU L us) (hm:L.length<=1000) (hh:∀ y∈rsd L,∀ z∈rsd L,khash (kI y)=khash (kI z)->y=z) {n:Nat}:∀ {gs:List Nat} {G:List Sd} {c:Nat} {u v:Option PV},RI L (qU us) G c->(∀ g∈gs,g < L.length+1) ->
  ∃ G' c' u' v',RI L (qU us) G' c'/\(∀ g∈gs,∀ b,(g,b)∈G')/\(∀ y∈G,y∈G')/\forGo (fun ρ'=>exs (callN zA (n+2)) ρ' fcO) (.one 4) (gs.map fun (g:Nat)=>PV.int (0+(g:Int))) (fcρ L us G c u v)=.ok (.next (fcρ L us G' c' u' v'))
 | [],G,c,u,v,I,_=>⟨G,c,u,v,I,fun _ h=>absurd h List.not_mem_nil,fun _ h=>h,rfl⟩
 | g::gs,G,c,u,v,I,hg=>by
  have hx:∀ b,(g,b)∈rsd L:=fun b=>mem_rsd.2 (hg g List.mem_cons_self)
  obtain ⟨G1,c1,I1,m1,s1,e1⟩:=fc_step o hm hh (n:=n) I (hx true)
  obtain ⟨G2,c2,I2,m2,s2,e2⟩:=fc_step o hm hh (n:=n) I1 (hx false)
  obtain ⟨G3,c3,u3,v3,I3,m3,s3,e3⟩:=fc_outer o hm hh (n:=n) (gs:=gs) (u:=some (.int g)) (v:=some (.int (-1))) I2 (fun x hx=>hg x (List.mem_cons_of_mem _ hx))
  refine ⟨G3,c3,u3,v3,I3,fun g' h b=>?_,fun y hy=>s3 y (s2 y (s1 y hy)),?_⟩
  ·rcases List.mem_cons.1 h with rfl | h
   ·cases b
    ·exact s3 _ m2
    ·exact s3 _ (s2 _ m1)
   ·exact m3 g' h b
  ·rw [List.map_cons]
   refine (zH (ρ1:=fcρ L us G c (some (.int g)) v) (ρ2:=fcρ L us G2 c2 (some (.int g)) (some (.int (-1)))) (by rw [Int.zero_add];rfl) ?_).trans e3
   unfold fcO
   refine (zB (ex_for (xs:=[.tuple [.int 1,.int (-1)]]) (ds:=[.int 1,.int (-1)]) rfl rfl ?_)).trans exs_0
   exact (zH (ρ1:=fcρ L us G c (some (.int g)) (some (.int 1))) rfl e1).trans (zH (ρ1:=fcρ L us G1 c1 (some (.int g)) (some (.int (-1)))) rfl e2)
theorem face_count (o:RU L us) (hm:L.length<=1000) (hh:∀ y∈rsd L,∀ z∈rsd L,khash (kI y)=khash (kI z)->y=z) {n:Nat}:∃ c,Fc L (qU us) c/\callN zA (n+3) 2 [.list (L.map .int),.dict (dT us)]=.ok (.int c):=by
 obtain ⟨G,c,u,v,I,hG,_,e⟩:=fc_outer o hm hh (n:=n) (gs:=List.range (L.length+1)) (u:=none) (v:=none) RI.nil (fun g hg=>List.mem_range.1 hg)
 obtain ⟨rs,k1,k2,k3,k4⟩:=I.rs
 refine ⟨c,⟨rs,k1,k2,k3,fun x hx=>(k4 x).1 (hG x.1 (List.mem_range.2 (mem_rsd.1 hx)) x.2)⟩,?_⟩
 rw [c2 (by rfl)]
 refine run2 (o:=.ret _) (ρ:=[some (.list (L.map .int)),some (.dict (dT us)),none,none,none,none,none,none,none,none,none,none]) rfl rfl ?_
 refine (zB (ρ':=[some (.list (L.map .int)),some (.dict (dT us)),some (.dict []),none,none,none,none,none,none,none,none,none]) rfl).trans ?_
 refine (zB (ρ':=fcρ L us [] 0 none none) rfl).trans ?_
 refine (zB (ex_for (xs:=[.int (L.length+1)]) (ds:=(List.range (L.length+1)).map fun (g:Nat)=>PV.int (0+(g:Int))) ?_ ?_ e)).trans ?_
 ·show Res.ok [PV.int (((L.map PV.int).length:Nat)+1)]=_
  rw [List.length_map]
 ·have:((L.length:Int)+1).toNat=L.length+1:=rfl
  have h3:(L.length:Int)+1<=(lim:Nat):=by unfold lim;exact xp141 hm
  have h4:(0:Int)<=(L.length:Int)+1:=by exact xp142
  rw [items_range,decide_eq_true h4,decide_eq_true h3,if_pos (show (true&&true)=true from rfl),upto,Int.sub_zero,this]
 ·exact exs_r rfl
end
end Mine.Internal
end
section
set_option backward.eqns.nonrecursive false
namespace Mine.Internal
open PySem
noncomputable def tI (l:List Int):PV:=.tuple (l.map .int)
noncomputable def dI (p:List Int×List Int):PV:=.tuple [tI p.1,tI p.2]
theorem is_number {n:Nat} (i:Int):callN zA (n+1) 4 [.int i]=.ok (.bool true):=by
 rw [c2 (by rfl)];rfl
theorem ev_bin {cf:Nat->List PV->Res PV} {ρ:Slots} {o:BOp} {a b:PE} {x y d:PV} (h1:ev cf ρ a=.ok x) (h2:ev cf ρ b=.ok y) (h:binop o x y=.ok d):ev cf ρ (.bin o a b)=.ok d:=by rw [vE6,h1,bindK,h2];exact h
theorem ev_cmp {cf:Nat->List PV->Res PV} {ρ:Slots} {o:COp} {a b:PE} {x y:PV} {r:Bool} (h1:ev cf ρ a=.ok x) (h2:ev cf ρ b=.ok y) (h:cmpop o x y=.ok r):ev cf ρ (.cmp o a b)=.ok (.bool r):=by rw [vE9,h1,bindK,h2,bindK,h];rfl
theorem evOr_f {cf:Nat->List PV->Res PV} {ρ:Slots} {e:PE} {r:List PE} (h:ev cf ρ e=.ok (.bool false)):evOr cf ρ (e::r)=evOr cf ρ r:=by rw [evOrC,h];rfl
theorem ev_or {cf:Nat->List PV->Res PV} {ρ:Slots} {l:List PE} {b:Bool} (h:evOr cf ρ l=.ok b):ev cf ρ (.or l)=.ok (.bool b):=by rw [vE12,h];rfl
theorem ev_not {cf:Nat->List PV->Res PV} {ρ:Slots} {e:PE} {b:Bool} (h:ev cf ρ e=.ok (.bool b)):ev cf ρ (.not e)=.ok (.bool (!b)):=by rw [vE8,h];rfl
theorem evAnd_b {cf:Nat->List PV->Res PV} {ρ:Slots} {e:PE} {r:List PE} {b:Bool} (h:ev cf ρ e=.ok (.bool b)):evAnd cf ρ (e::r)=if b then evAnd cf ρ r else .ok false:=by rw [evAndC,h];rfl
theorem ev_and {cf:Nat->List PV->Res PV} {ρ:Slots} {l:List PE} {b:Bool} (h:evAnd cf ρ l=.ok b):ev cf ρ (.and l)=.ok (.bool b):=by rw [vE11,h];rfl
theorem ex_ret {cf:Nat->List PV->Res PV} {ρ:Slots} {e:PE} {d:PV} (h:ev cf ρ e=.ok d):ex cf ρ (.ret e)=.ok (.ret d):=by rw [xE11,h];rfl
section
variable {w:Nat} {R:List Sd} {sg:Nat->Int}
theorem ordL_len (o:Code w R):(ordL R).length=w:=by
 have h1:=nodup_le (l:=ordL R) (m:=List.range w) nd_ordL (fun l hl=>by
  obtain ⟨b,h⟩:=mem_ordL.1 hl;exact List.mem_range.2 ((o.mem l b).1 h))
 have h2:=nodup_le (l:=List.range w) (m:=ordL R) List.nodup_range (fun l hl=>mem_ordL.2 ⟨true,(o.mem l true).2 (List.mem_range.1 hl)⟩)
 rw [List.length_range] at h1 h2;exact u139 h1 h2
theorem fold_rv {q:Nat->Nat} (hsg:Sg sg) {S:Nat->Prop} (hq:∀ k l,S k->S l->q k=q l->k=l):∀ {R2:List Sd} {o:List Nat},(∀ x∈R2,S x.1)->(∀ l∈o,S l)->(R2.map (rv q sg)).foldl ordS (o.map fun l=>(q l:Int)+1)=(ordG o R2).map fun l=>(q l:Int)+1
 | [],_,_,_=>rfl
 | x::R2,o,h1,h2=>by
  have hx:=h1 x List.mem_cons_self
  have step:ordS (o.map fun l=>(q l:Int)+1) (rv q sg x)=(if x.1∈o then o else o++[x.1]).map fun l=>(q l:Int)+1:=by
   unfold ordS
   rw [rv_abs hsg]
   have:((q x.1:Int)+1)∈(o.map fun l=>(q l:Int)+1)↔x.1∈o:=by
    rw [List.mem_map]
    exact ⟨fun ⟨l,hl,e⟩=>by rw [<-hq l x.1 (h2 l hl) hx (by exact u84 e)];exact hl,fun h=>⟨_,h,rfl⟩⟩
   by_cases c:x.1∈o
   ·rw [if_pos (this.2 c),if_pos c]
   ·rw [if_neg fun z=>c (this.1 z),if_neg c,List.map_append];rfl
  rw [List.map_cons,List.foldl_cons,step]
  refine fold_rv hsg hq (fun y hy=>h1 y (List.mem_cons_of_mem _ hy)) fun l hl=>?_
  split at hl
  ·exact h2 l hl
  ·rcases List.mem_append.1 hl with h | h
   ·exact h2 l h
   ·rw [List.mem_singleton.1 h];exact hx
theorem rv_inj' (o:Code w R) (hsg:Sg sg) {x y:Nat×Bool} (hx:x∈R) (hy:y∈R) (e:rv (qL R) sg x=rv (qL R) sg y):x=y:=
 rv_inj hsg e fun h=>qL_inj (mem_ordL.2 ⟨x.2,hx⟩) (mem_ordL.2 ⟨y.2,hy⟩) h
theorem dps_nodup (o:Code w R) (hsg:Sg sg):(dps R sg).Nodup:=by
 have key:∀ {S:List Sd},S.Nodup->(∀ x∈S,x∈R)->(S.map (rv (qL R) sg)).Nodup:=by
  intro S
  induction S with
  | nil=>intro _ _;exact List.nodup_nil
  | cons x S ih=>
   intro hn hs
   obtain ⟨h1,h2⟩:=List.nodup_cons.1 hn
   refine List.nodup_cons.2 ⟨fun q=>?_,ih h2 fun y hy=>hs y (List.mem_cons_of_mem _ hy)⟩
   obtain ⟨y,hy,e⟩:=List.mem_map.1 q
   exact h1 (rv_inj' o hsg (hs y (List.mem_cons_of_mem _ hy)) (hs x List.mem_cons_self) e ▸ hy)
 exact key o.nd fun _ h=>h
theorem dps_good (o:Code w R) (hsg:Sg sg):Good w (dps R sg):=by
 have hm:∀ x∈R,x.1∈ordL R:=fun x hx=>mem_ordL.2 ⟨x.2,hx⟩
 have hq:∀ l∈ordL R,qL R l < w:=fun l hl=>by rw [<-ordL_len o];exact idxOf_lt_of_mem hl
 refine ⟨dps_nodup o hsg,fun i hi=>?_,?_,by rw [dps,List.length_map,code_len o]⟩
 ·obtain ⟨x,hx,rfl⟩:=List.mem_map.1 hi
  refine ⟨rv_ne hsg,?_⟩
  rw [rv_abs hsg]
  have:=hq _ (hm x hx);exact u88 this
 ·have:=fold_rv (q:=qL R) hsg (S:=fun l=>l∈ordL R) (fun k l hk hl e=>qL_inj hk hl e) (R2:=R) (o:=[]) hm fun l hl=>absurd hl List.not_mem_nil
  rw [List.map_nil] at this
  unfold dps
  rw [this]
  show (ordL R).map _=_
  refine List.ext_getElem? fun k=>?_
  unfold up1
  rw [List.getElem?_map,List.getElem?_map]
  by_cases h:k < w
  ·have hk:k < (ordL R).length:=by rw [ordL_len o];exact h
   rw [List.getElem?_eq_getElem hk,List.getElem?_range h]
   refine congrArg some ?_
   show (((ordL R).idxOf (ordL R)[k]:Nat):Int)+1=(k:Int)+1
   rw [nd_ordL.idxOf_getElem k hk]
  ·rw [List.getElem?_eq_none_iff.2 (by rw [ordL_len o];exact u4 h),List.getElem?_eq_none_iff.2 (by rw [List.length_range];exact u4 h)];rfl
theorem dts_ok (hsg:Sg sg):∀ t∈dts R sg,t=1\/t=-1:=fun t ht=>by
 obtain ⟨l,_,rfl⟩:=List.mem_map.1 ht;exact hsg l
theorem dts_len (o:Code w R):(dts R sg).length=w:=by unfold dts;rw [List.length_map];exact ordL_len o
end
noncomputable def dE (l:List Int):List (Key×PV):=l.map fun i=>(Key.int i,PV.bool true)
theorem dE_fits {l:List Int} {i:Int}:dfits (dE l) (.int i)=true:=by simp [dfits,dE,sameII]
theorem dE_has {l:List Int} {i:Int}:dhas (dE l) (.int i)=decide (i∈l):=by
 rw [Bool.eq_iff_iff]
 unfold dhas dE
 rw [List.any_eq_true,decide_eq_true_iff]
 constructor
 ·rintro ⟨p,hp,e⟩
  obtain ⟨y,hy,rfl⟩:=List.mem_map.1 hp
  rw [<-Key.int.inj (of_decide_eq_true e)];exact hy
 ·intro h;exact ⟨(.int i,.bool true),List.mem_map.2 ⟨i,h,rfl⟩,decide_eq_true rfl⟩
theorem dE_put {l:List Int} {i:Int} (h:i∉l):dput (dE l) (.int i) (.bool true)=dE (l++[i]):=by
 unfold dput;rw [dE_has,decide_eq_false h,if_neg Bool.false_ne_true];unfold dE;rw [List.map_append];rfl
noncomputable def apρ (P:PV) (n met:Nat) (seen:List Int) (u:Option PV):Slots:=[some P,some (.int n),some (.int met),some (.dict (dE seen)),u,none,none,none,none,none,none]
noncomputable def apB:List PS:=[(.ite (.or [(.not (.call 4 false [(.var 4)])),(.cmp .eq (.var 4) (.const (.int 0))),(.cmp .gt (.prim .abs [(.var 4)]) (.var 1)),(.cmp .isIn (.var 4) (.var 3))]) [(.ret (.const (.bool false)))] []),(.ite (.cmp .notIn (.bin .sub (.const (.int 0)) (.var 4)) (.var 3)) [(.assign 2 (.bin .add (.var 2) (.const (.int 1)))),(.ite (.cmp .ne (.prim .abs [(.var 4)]) (.var 2)) [(.ret (.const (.bool false)))] [])] []),(.setItem 3 (.var 4) (.const (.bool true)))]
section
variable {cf:Nat->List PV->Res PV} {P:PV} {n met:Nat} {seen:List Int} {i:Int}
theorem ap_or (hnum:∀ i:Int,cf 4 [.int i]=.ok (.bool true)) (c:¬ (i=0\/(n:Int) < absI i\/i∈seen)):ev cf (apρ P n met seen (some (.int i))) (.or [(.not (.call 4 false [(.var 4)])),(.cmp .eq (.var 4) (.const (.int 0))),(.cmp .gt (.prim .abs [(.var 4)]) (.var 1)),(.cmp .isIn (.var 4) (.var 3))])=.ok (.bool false):=by
 have h1:(i==0)=false:=beq_eq_false_iff_ne.2 fun h=>c (.inl h)
 have h2:decide ((n:Int) < absI i)=false:=decide_eq_false fun h=>c (.inr (.inl h))
 have h3:decide (i∈seen)=false:=decide_eq_false fun h=>c (.inr (.inr h))
 refine ev_or ((evOr_f (ev_not (b:=true) (zF (xs:=[.int i]) rfl (hnum _)))).trans ?_)
 refine (evOr_f (h1 ▸ rfl)).trans ((evOr_f (h2 ▸ rfl)).trans ((evOr_f ?_).trans evOrN))
 show ((isin (.int i) (.dict (dE seen))).bind _)=_
 rw [isin_int dE_fits,dE_has,h3];rfl
theorem ap_new {b:Bool} (h:decide (-i∈seen)=b):ev cf (apρ P n met seen (some (.int i))) (.cmp .notIn (.bin .sub (.const (.int 0)) (.var 4)) (.var 3))=.ok (.bool (!b)):=by
 show (((isin (.int (0-i)) (.dict (dE seen))).bind _).bind _)=_
 rw [isin_int dE_fits,dE_has,Int.zero_sub,h];rfl
theorem ap_step (hnum:∀ i:Int,cf 4 [.int i]=.ok (.bool true)) (hl:seen.length < lim) (c1:¬ (i=0\/(n:Int) < absI i\/i∈seen)) {met':Nat} (c2:if -i∈seen then met'=met else absI i=(met:Int)+1/\met'=met+1):
  exs cf (apρ P n met seen (some (.int i))) apB=.ok (.next (apρ P n met' (seen++[i]) (some (.int i)))):=by
 have his:i∉seen:=fun h=>c1 (.inr (.inr h))
 refine (zB (ex_skip (ap_or hnum c1))).trans ?_
 have hset:exs cf (apρ P n met' seen (some (.int i))) [.setItem 3 (.var 4) (.const (.bool true))]=.ok (.next (apρ P n met' (seen++[i]) (some (.int i)))):=by
  refine (zB ((ex_setItem (l:=dE seen) rfl rfl rfl rfl dE_fits (by unfold dE;rw [List.length_map];exact hl)).trans ?_)).trans exs_0
  rw [dE_put his];rfl
 by_cases q:-i∈seen
 ·rw [if_pos q] at c2;subst c2
  exact (zB (ex_skip (ap_new (decide_eq_true q)))).trans hset
 ·rw [if_neg q] at c2
  obtain ⟨c3,rfl⟩:=c2
  refine (zB (ρ':=apρ P n (met+1) seen (some (.int i))) ?_).trans hset
  rw [ex_ite (ap_new (decide_eq_false q))]
  refine (zB (ρ':=apρ P n (met+1) seen (some (.int i))) rfl).trans ((zB (ex_skip ?_)).trans exs_0)
  show Res.ok (PV.bool (!(absI i==((met:Int)+1))))=_
  rw [c3,beq_self_eq_true];rfl
theorem ap_go (hnum:∀ i:Int,cf 4 [.int i]=.ok (.bool true)) {m:Nat}:∀ {is seen:List Int} {met:Nat} {u:Option PV},seen.length+is.length < lim->apI n m is seen met=true ->
  ∃ seen' u',forGo (fun ρ'=>exs cf ρ' apB) (.one 4) (is.map .int) (apρ P n met seen u)=.ok (.next (apρ P n n seen' u'))
 | [],seen,met,u,_,h=>by
  rw [apN,Bool.and_eq_true] at h
  exact ⟨seen,u,by rw [of_decide_eq_true h.2];rfl⟩
 | i::is,seen,met,u,hl,h=>by
  rw [List.length_cons] at hl
  rw [apC] at h
  by_cases c1:i=0\/(n:Int) < absI i\/i∈seen
  ·rw [if_pos c1] at h;cases h
  ·rw [if_neg c1] at h
   have go:∀ {met':Nat},(if -i∈seen then met'=met else absI i=(met:Int)+1/\met'=met+1)->apI n m is (seen++[i]) met'=true->∃ seen' u',forGo (fun ρ'=>exs cf ρ' apB) (.one 4) ((i::is).map .int) (apρ P n met seen u)=.ok (.next (apρ P n n seen' u')):=fun c2 h=>by
    obtain ⟨s',u',e⟩:=ap_go hnum (m:=m) (is:=is) (seen:=seen++[i]) (u:=some (.int i)) (by rw [List.length_append,List.length_singleton];exact u179 hl) h
    exact ⟨s',u',(zH (ρ1:=apρ P n met seen (some (.int i))) rfl (ap_step hnum (by exact u177 hl) c1 c2)).trans e⟩
   by_cases c2:-i∈seen
   ·rw [if_pos c2] at h;exact go (by rw [if_pos c2]) h
   ·rw [if_neg c2] at h
    by_cases c3:absI i=(met:Int)+1
    ·rw [if_pos c3] at h;exact go (by rw [if_neg c2];exact ⟨c3,rfl⟩) h
    ·rw [if_neg c3] at h;cases h
end
theorem are_passes {k n:Nat} {is:List Int} (g:Good n is) (hn:n<=40):callN zA (k+2) 6 [tI is,.int n]=.ok (.bool true):=by
 have hl:=g.len
 rw [c2 (by rfl)]
 obtain ⟨seen',u',e⟩:=ap_go (cf:=callN zA (k+1)) (P:=tI is) (n:=n) (m:=is.length) (fun i=>is_number i) (is:=is) (seen:=[]) (met:=0) (u:=none) (by rw [List.length_nil];unfold lim;exact wa20 hn hl) (apI_good g)
 refine run2 (o:=.ret _) (ρ:=[some (tI is),some (.int n),none,none,none,none,none,none,none,none,none]) rfl rfl ?_
 refine (zB (ρ':=[some (tI is),some (.int n),some (.int 0),none,none,none,none,none,none,none,none]) rfl).trans ((zB (ρ':=apρ (tI is) n 0 [] none) rfl).trans ((zB (ex_for (xs:=[tI is]) (ds:=is.map .int) rfl rfl e)).trans (exs_r (ex_ret (ev_and ?_)))))
 have e3:ev (callN zA (k+1)) (apρ (tI is) n n seen' u') (.cmp .eq (.prim .len [(.var 0)]) (.bin .mul (.const (.int 2)) (.var 1)))=.ok (.bool true):=by
  rw [vE9,show ev (callN zA (k+1)) (apρ (tI is) n n seen' u') (.bin .mul (.const (.int 2)) (.var 1))=.ok (.int (2*n)) from ev_mul rfl rfl (by decide) (by unfold big;simp;exact wa21 hn)]
  show Res.ok (PV.bool ((((is.map PV.int).length:Nat):Int)==2*(n:Int)))=_
  rw [List.length_map,hl,show (((2*n:Nat):Int)==2*(n:Int))=true from beq_self_eq_true _]
 refine (evAnd_b e3).trans ((if_pos rfl).trans ((evAnd_b (b:=true) ?_).trans rfl))
 show Res.ok (PV.bool ((n:Int)==(n:Int)))=_
 rw [beq_self_eq_true]
theorem flats_int:∀ (l:List Int),PV.flats (l.map .int)=true
 | []=>rfl
 | _::l=>flats_int l
end Mine.Internal
end
section
set_option backward.eqns.nonrecursive false
namespace Mine.Internal
open PySem
theorem comp_map {elt:Slots->Res PV} {cond:Slots->Res Bool} {i:Nat} {f:PV->PV}:∀ {ds:List PV} {ρ:Slots},(∀ d∈ds,cond (ρ.set i (some d))=.ok true/\elt (ρ.set i (some d))=.ok (f d))->compGo elt cond (.one i) ds ρ=.ok (ds.map f)
 | [],_,_=>rfl
 | d::ds,ρ,h=>by
  have h1:=h d (by simp)
  have:=comp_map (ds:=ds) (ρ:=ρ.set i (some d)) (elt:=elt) (cond:=cond) (f:=f) (i:=i) (fun d' hd=>by
   rw [List.set_set];exact h d' (by simp [hd]))
  simp [compC,tgt1,bindK,h1,this]
theorem ev_comp {cf:Nat->List PV->Res PV} {ρ:Slots} {elt:PE} {t:Tgt} {k:ItK} {src conds:List PE} {xs ds ys:List PV} (hs:evs cf ρ src=.ok xs) (hi:items k xs=.ok ds) (h:compGo (fun ρ'=>ev cf ρ' elt) (fun ρ'=>evAnd cf ρ' conds) t ds (clr t ρ)=.ok ys) (hl:ys.length<=lim):ev cf ρ (.comp elt t k src conds)=.ok (.list ys):=by
 rw [vE22];simp only [hs,bindK,hi,h,noExc,mkL,hl,if_true]
theorem dT_app (a:List Int) (t:Int):dT (a++[t])=dT a++[(.int ((a.length:Int)+1),.int t)]:=by
 simp [dT,List.zipIdx_append]
theorem dT_new {a:List Int} {k:Nat} (h:a.length<=k):dhas (dT a) (.int ((k:Int)+1))=false:=by
 rw [Bool.eq_false_iff];intro hh
 unfold dhas dT at hh
 rw [List.any_eq_true] at hh
 obtain ⟨p,hp,e⟩:=hh
 obtain ⟨⟨v,j⟩,hy,rfl⟩:=List.mem_map.1 hp
 have:=List.mem_zipIdx hy
 have e:=of_decide_eq_true e
 simp at e;exact (o155 h this.2.1 e).elim
theorem dT_put {a:List Int} {t:Int}:dput (dT a) (.int ((a.length:Int)+1)) (.int t)=dT (a++[t]):=by
 unfold dput;rw [dT_new (Nat.le_refl _),dT_app];simp
theorem to_go {n:Nat} {D:PV}:∀ {ts a:List Int} {u v:Option PV},a.length+ts.length < 1000 ->
  ∃ u' v',forGo (fun ρ'=>exs (callN zA n) ρ' [(.setItem 1 (.bin .add (.var 2) (.const (.int 1))) (.var 3))]) (.many [2,3]) (((ts.map PV.int).zipIdx a.length).map fun p=>PV.tuple [.int p.2,p.1]) [some D,some (.dict (dT a)),u,v,none,none,none,none,none,none]=.ok (.next [some D,some (.dict (dT (a++ts))),u',v',none,none,none,none,none,none])
 | [],a,u,v,_=>⟨u,v,by simp [forN]⟩
 | t::ts,a,u,v,h=>by
  obtain ⟨u',v',e⟩:=to_go (n:=n) (D:=D) (ts:=ts) (a:=a++[t]) (u:=some (.int a.length)) (v:=some (.int t)) (by simp at h ⊢;exact o156 h)
  refine ⟨u',v',?_⟩
  have e2:a++[t]++ts=a++t::ts:=by simp
  rw [e2,List.length_append,List.length_singleton] at e
  refine Eq.trans ?_ e
  rw [List.map_cons,List.zipIdx_cons,List.map_cons]
  refine zH (ρ1:=[some D,some (.dict (dT a)),some (.int a.length),some (.int t),none,none,none,none,none,none]) (by simp [tgtM]) ?_
  have hl:(dT a).length < 16777216:=by simp [dT] at h ⊢;exact o158 h
  simp [exsN,exsC,xE4,vE1,vE2,vE6,slot,bindK,bopA,addVI,lim,keyI,dT_fits,hl,dT_put]
theorem turns_of {n:Nat} {p:List Int×List Int} (h:p.2.length < 1000):callN zA (n+1) 5 [dI p]=.ok (.dict (dT p.2)):=by
 obtain ⟨u,v,e⟩:=to_go (n:=n) (D:=dI p) (ts:=p.2) (a:=[]) (u:=none) (v:=none) (by simpa using h)
 rw [c2 (by rfl)]
 refine run2 (o:=.ret _) (ρ:=[some (dI p),none,none,none,none,none,none,none,none,none]) rfl rfl ?_
 refine (zB (ρ':=[some (dI p),some (.dict (dT [])),none,none,none,none,none,none,none,none]) rfl).trans ?_
 refine (zB (ex_for (xs:=[tI p.2]) rfl rfl e)).trans ?_
 exact exs_r rfl
theorem hh21:((rsd (List.replicate 21 0)).map fun y=>khash (kI y)).Nodup:=by decide +kernel
theorem nodup_inj {α β:Type} {f:α->β}:∀ {l:List α},(l.map f).Nodup->∀ y∈l,∀ z∈l,f y=f z->y=z
 | [],_,y,hy,_,_,_=>absurd hy List.not_mem_nil
 | a::l,h,y,hy,z,hz,e=>by
  rw [List.map_cons,List.nodup_cons] at h
  rcases List.mem_cons.1 hy with h1 | h1<;>rcases List.mem_cons.1 hz with h2 | h2
  ·rw [h1,h2]
  ·exact absurd (List.mem_map.2 ⟨z,h2,by rw [<-e,h1]⟩) h.1
  ·exact absurd (List.mem_map.2 ⟨y,h1,by rw [e,h2]⟩) h.1
  ·exact nodup_inj h.2 y h1 z h2 e
theorem hh_le {L:List Int} (h:L.length<=21):∀ y∈rsd L,∀ z∈rsd L,khash (kI y)=khash (kI z)->y=z:=fun y hy z hz e=>
 nodup_inj (f:=fun y=>khash (kI y)) hh21 y (mem_rsd.2 (by have:=mem_rsd.1 hy;rw [List.length_replicate];exact xp143 h this)) z (mem_rsd.2 (by have:=mem_rsd.1 hz;rw [List.length_replicate];exact xp143 h this)) e
noncomputable def Dr (ps us:List Int):Prop:=DOk ps us/\∀ c,Fc (ps++[0]) (qU us) c->c=us.length+1
theorem DOk.ru {ps us:List Int} (d:DOk ps us):RU (ps++[0]) us:=⟨d.row,fun v hv h=>(d.good.ok v ((List.mem_append.1 hv).resolve_right fun q=>h (List.mem_singleton.1 q))).2,d.tn⟩
theorem bools_t {α:Type}:∀ (l:List α),bools? (l.map fun _=>PV.bool true)=some (l.map fun _=>true)
 | []=>rfl
 | d::l=>by rw [List.map_cons,bools?,bools_t l];rfl
noncomputable def isρ (ps us:List Int):Slots:=[some (dI (ps,us)),some (tI ps),some (tI us),none,none,none,none,none,none]
section
variable {k:Nat} {ps us:List Int}
theorem dr_turns (hu:∀ t∈us,t=1\/t=-1) (hl:us.length<=40):ev (callN zA (k+1)) (isρ ps us) (.not (.prim .all [(.comp (.and [(.call 4 false [(.var 3)]),(.or [(.cmp .eq (.var 3) (.const (.int 1))),(.cmp .eq (.var 3) (.neg (.const (.int 1))))])]) (.one 3) .seq [(.var 2)] [])]))=.ok (.bool false):=by
 refine ev_not (b:=true) ?_
 have hc:ev (callN zA (k+1)) (isρ ps us) (.comp (.and [(.call 4 false [(.var 3)]),(.or [(.cmp .eq (.var 3) (.const (.int 1))),(.cmp .eq (.var 3) (.neg (.const (.int 1))))])]) (.one 3) .seq [(.var 2)] [])=.ok (.list ((us.map PV.int).map fun _=>.bool true)):=by
  refine ev_comp (xs:=[tI us]) (ds:=us.map .int) rfl rfl (comp_map fun d hd=>⟨rfl,ev_and ?_⟩) (by rw [List.length_map,List.length_map];unfold lim;exact wa23 hl)
  obtain ⟨t,ht,rfl⟩:=List.mem_map.1 hd
  refine (evAnd_b (b:=true) (zF (xs:=[.int t]) rfl (is_number t))).trans ?_
  rcases hu t ht with rfl | rfl<;>rfl
 rw [vE20,evsC,hc]
 show allB ((us.map PV.int).map fun _=>.bool true)=_
 unfold allB
 rw [bools_t]
 show Res.ok (PV.bool (((us.map PV.int).map fun _=>true).all id))=_
 rw [List.all_map];exact congrArg (fun b=>Res.ok (PV.bool b)) (List.all_eq_true.2 fun _ _=>rfl)
theorem is_dr (h:Dr ps us):callN zA (k+4) 7 [dI (ps,us)]=.ok (.bool true):=by
 obtain ⟨d,hF⟩:=h
 have g:=d.good
 have hu:=d.tn
 have hw':=d.n10
 obtain ⟨w,hl⟩:∃ w,us.length=w:=⟨_,rfl⟩
 rw [hl] at g hw' hF
 have hw:w<=40:=by exact xp144 hw'
 obtain ⟨c,hc,f1⟩:=face_count (n:=k) d.ru (by rw [List.length_append,g.len,List.length_singleton];exact xp145 hw') (hh_le (by rw [List.length_append,g.len,List.length_singleton];exact xp146 hw'))
 have:=hF c hc
 subst this
 have f2:=turns_of (n:=k+2) (p:=(ps,us)) (show us.length < 1000 by exact wa27 hw hl)
 have f5:=are_passes (k:=k+1) g hw
 rw [c2 (by rfl)]
 have f3:=dr_turns (k:=k+2) (ps:=ps) hu (by exact wa28 hw hl)
 generalize callN zA (k+3)=cf at *
 refine run2 (o:=.ret _) (ρ:=[some (dI (ps,us)),none,none,none,none,none,none,none,none]) rfl rfl ?_
 refine (zB (ρ':=[some (dI (ps,us)),none,none,none,none,none,none,none,none]) rfl).trans ((zB (ρ':=isρ ps us) rfl).trans ?_)
 have l2:ev cf (isρ ps us) (.prim .len [(.var 2)])=.ok (.int w):=by
  show Res.ok (PV.int ((us.map PV.int).length:Nat))=_
  rw [List.length_map,hl]
 refine (zB (ex_skip (ev_or ((evOr_f (ev_not (b:=true) rfl)).trans ((evOr_f (ev_not (b:=true) rfl)).trans ((evOr_f ?_).trans evOrN)))))).trans ?_
 ·rw [ev_cmp l2 (y:=.int 40) rfl rfl]
  show Res.ok (PV.bool (decide ((w:Int) > 40)))=_
  rw [decide_eq_false (by exact wa29 hw)]
 refine (zB (ex_skip f3)).trans ?_
 refine (zB (ex_skip (ev_or ((evOr_f ?_).trans ((evOr_f (ev_not (b:=true) (zF (xs:=[tI ps,.int w]) ?_ f5))).trans evOrN))))).trans ?_
 ·rw [ev_cmp (x:=.int ((2*w:Nat):Int)) (y:=.int (2*(w:Int))) (r:=!(((2*w:Nat):Int)==2*(w:Int))) ?_ (ev_mul rfl l2 (by decide) (by unfold big;simp;exact wa21 hw)) rfl,show (((2*w:Nat):Int)==2*(w:Int))=true from beq_self_eq_true _]
  ·rfl
  ·show Res.ok (PV.int ((ps.map PV.int).length:Nat))=_
   rw [List.length_map,g.len]
 ·rw [evsC,evsC,l2];rfl
 refine exs_r (ex_ret ?_)
 refine (ev_cmp (x:=.int ((w+1:Nat):Int)) (y:=.int ((w:Int)+1)) (r:=((w+1:Nat):Int)==(w:Int)+1) (zF (xs:=[.list ((ps++[0]).map .int),.dict (dT us)]) ?_ f1) (ev_bin (x:=.int w) (y:=.int 1) l2 rfl rfl) rfl).trans ?_
 ·have g1:ev cf (isρ ps us) (.bin .add (.prim .listOf [(.var 1)]) (.lst [(.const (.int 0))]))=.ok (.list ((ps++[0]).map .int)):=by
   rw [List.map_append]
   show (if (ps.map PV.int++[PV.int 0]).length<=lim then Res.ok (PV.list (ps.map PV.int++[PV.int 0])) else .stuck)=_
   rw [if_pos (by rw [List.length_append,List.length_singleton,List.length_map,g.len];unfold lim;exact wa30 hw)];rfl
  rw [evsC,g1,bindK,evsC,zF (xs:=[dI (ps,us)]) rfl f2];rfl
 ·rw [show (((w+1:Nat):Int)==(w:Int)+1)=true from beq_self_eq_true _]
end
end Mine.Internal
end
section
namespace Mine.Internal
open PySem
theorem comp_map2 {α:Type} {elt:Slots->Res PV} {cond:Slots->Res Bool} {i:Nat} {a b:α->PV}:∀ {os:List α} {ρ:Slots},(∀ x∈os,cond (ρ.set i (some (a x)))=.ok true/\elt (ρ.set i (some (a x)))=.ok (b x))->compGo elt cond (.one i) (os.map a) ρ=.ok (os.map b)
 | [],_,_=>rfl
 | x::os,ρ,h=>by
  have h1:=h x (by simp)
  have:=comp_map2 (os:=os) (ρ:=ρ.set i (some (a x))) (elt:=elt) (cond:=cond) (a:=a) (b:=b) (i:=i) (fun d' hd=>by
   rw [List.set_set];exact h d' (by simp [hd]))
  simp [compC,tgt1,bindK,h1,this]
section
variable {q:Nat->Nat} {sg:Nat->Int} {R:List (Nat×Bool)}
noncomputable def QI (q:Nat->Nat) (R:List (Nat×Bool)):Prop:=∀ k∈ordL R,∀ l∈ordL R,q k=q l->k=l
theorem ord_snoc (R1:List (Nat×Bool)) (l:Nat) (b:Bool):ordL (R1++[(l,b)])=if l∈ordL R1 then ordL R1 else ordL R1++[l]:=by
 unfold ordL;rw [ordG_app];rfl
theorem ord_sub {R1 R2:List (Nat×Bool)} {l:Nat} (h:l∈ordL R1):l∈ordL (R1++R2):=by
 obtain ⟨b,hb⟩:=mem_ordL.1 h;exact mem_ordL.2 ⟨b,by simp [hb]⟩
theorem ordL_le (R:List (Nat×Bool)):(ordL R).length<=R.length:=by
 have:∀ (R:List (Nat×Bool)) (o:List Nat),(ordG o R).length<=o.length+R.length:=by
  intro R;induction R with
  | nil=>intro o;simp [ordG]
  | cons x R ih=>
   intro o
   have:=ih (if x.1∈o then o else o++[x.1])
   show (ordG (if x.1∈o then o else o++[x.1]) R).length<=_
   split at this<;>rename_i h<;>simp [h] at this ⊢<;>(first | exact o174 this | exact o175 this)
 simpa [ordL] using this R []
theorem rv_sgn (hsg:Sg sg) {q':Nat->Nat} (x:Nat×Bool):rv q' sg x=if 0 < rv q sg x then (q' x.1:Int)+1 else -((q' x.1:Int)+1):=by
 rcases rv_cases hsg (q:=q) (x:=x) with ⟨h,h2⟩ | ⟨h,h2⟩<;>rw [h]
 ·rw [if_pos (by exact o173)];unfold rv;rw [h2];exact v80
 ·rw [if_neg (by exact o176)];unfold rv;rw [h2];exact v81
end
section
variable {q:Nat->Nat} {sg:Nat->Int} {R:List (Nat×Bool)}
noncomputable def oI (q:Nat->Nat) (o:List Nat):List PV:=o.map fun l=>PV.int ((q l:Int)+1)
theorem flats_oI:∀ (o:List Nat),PV.flats (oI q o)=true
 | []=>rfl
 | _::o=>by simpa [oI,flatsN,flatsC,flatI] using flats_oI o
theorem any_oI {o:List Nat} {l:Nat} (hq:∀ k∈o,q k=q l->k=l):(oI q o).any (fun y=>PV.eq y (.int ((q l:Int)+1)))=decide (l∈o):=by
 rw [Bool.eq_iff_iff,List.any_eq_true,decide_eq_true_iff]
 constructor
 ·rintro ⟨p,hp,e⟩
  obtain ⟨k,hk,rfl⟩:=List.mem_map.1 hp
  simp [eqII] at e
  rw [<-hq k hk (by exact o148 e)];exact hk
 ·intro h;exact ⟨_,List.mem_map.2 ⟨l,h,rfl⟩,by simp [eqII]⟩
theorem isin_oI {o:List Nat} {l:Nat} (hq:∀ k∈o,q k=q l->k=l):isin (.int ((q l:Int)+1)) (.list (oI q o))=.ok (decide (l∈o)):=by
 simp only [isin,flats_oI,flatI,depI,any_oI hq];simp
theorem index_oI {o:List Nat} {l:Nat} (h:l∈o) (hq:∀ k∈o,q k=q l->k=l):indexIn (oI q o) (.int ((q l:Int)+1))=.ok (.int (o.idxOf l)):=by
 have e:oI q o=(o.map fun l=>((q l:Int)+1)).map PV.int:=by simp [oI]
 have:=idxOf?_map (f:=fun l=>((q l:Int)+1)) (M:=[]) h (fun k hk e=>hq k hk (by exact o182 e))
 rw [List.append_nil] at this
 simp only [indexIn,e,ints_map,this]
noncomputable def ln1:List PS:=[(.ite (.cmp .notIn (.prim .abs [(.var 3)]) (.var 2)) [(.append 2 (.prim .abs [(.var 3)]))] [])]
theorem ln_go1 {cf:Nat->List PV->Res PV} (hsg:Sg sg) (hq:QI q R) (hm:R.length<=1000) {P T:PV}:∀ {R2 R1:List (Nat×Bool)} {u:Option PV},R=R1++R2 ->
  ∃ u',forGo (fun ρ'=>exs cf ρ' ln1) (.one 3) (R2.map fun x=>PV.int (rv q sg x)) [some P,some T,some (.list (oI q (ordL R1))),u,none,none,none,none,none,none,none]=.ok (.next [some P,some T,some (.list (oI q (ordL R))),u',none,none,none,none,none,none,none])
 | [],R1,u,h=>⟨u,by simp at h;subst h;simp [forN]⟩
 | (l,b)::R2,R1,u,h=>by
  have h':R=(R1++[(l,b)])++R2:=by simp [h]
  obtain ⟨u',e⟩:=ln_go1 (cf:=cf) hsg hq hm (P:=P) (T:=T) (R2:=R2) (R1:=R1++[(l,b)]) (u:=some (.int (rv q sg (l,b)))) h'
  refine ⟨u',?_⟩
  refine Eq.trans ?_ e
  rw [List.map_cons]
  refine zH (ρ1:=[some P,some T,some (.list (oI q (ordL R1))),some (.int (rv q sg (l,b))),none,none,none,none,none,none,none]) (by simp [tgt1]) ?_
  have hs:∀ k∈ordL R1,k∈ordL R:=fun k hk=>by rw [h];exact ord_sub hk
  have hl:l∈ordL R:=mem_ordL.2 ⟨b,by rw [h];simp⟩
  have hq':∀ k∈ordL R1,q k=q l->k=l:=fun k hk e=>hq k (hs k hk) l hl e
  have k1:(if rv q sg (l,b) < 0 then -rv q sg (l,b) else rv q sg (l,b))=(q l:Int)+1:=rv_abs hsg (x:=(l,b))
  have k2:=isin_oI hq'
  have k3:=ordL_le R1
  have k4:R1.length<=1000:=by rw [h] at hm;simp at hm;exact o178 hm
  have k5:(oI q (ordL R1)).length < 16777216:=by rw [oI,List.length_map];exact o180 k3 k4
  have k6:oI q (ordL R1++[l])=oI q (ordL R1)++[.int ((q l:Int)+1)]:=by simp [oI]
  rw [ord_snoc]
  by_cases hb:l∈ordL R1
  ·simp [ln1,exsN,exsC,xE5,xE8,vE1,vE9,vE20,evsN,evsC,slot,bindK,copNi,prAbs,p1K,absK,lim,k1,k2,hb]
  ·simp [ln1,exsN,exsC,xE5,xE8,vE1,vE9,vE20,evsN,evsC,slot,bindK,copNi,prAbs,p1K,absK,lim,k1,k2,hb,k5,k6]
theorem law_numbered {n:Nat} (hsg:Sg sg) (hq:QI q R) (hm:R.length<=1000) {P T:PV} (hP:items .seq [P]=.ok (R.map fun x=>PV.int (rv q sg x))) (hT:∀ l∈ordL R,getIdx T (.int ((q l:Int)+1))=.ok (.int (sg l))):
  callN zA (n+1) 22 [P,T]=.ok (dI (dps R sg,dts R sg)):=by
 rw [c2 (by rfl)]
 generalize callN zA n=cf
 obtain ⟨u1,e1⟩:=ln_go1 (cf:=cf) hsg hq hm (P:=P) (T:=T) (R2:=R) (R1:=[]) (u:=none) rfl
 refine run2 (o:=.ret _) (ρ:=[some P,some T,none,none,none,none,none,none,none,none,none]) rfl rfl ?_
 refine (zB (ρ':=[some P,some T,some (.list (oI q (ordL []))),none,none,none,none,none,none,none,none]) (by rfl)).trans ?_
 refine (zB (ex_for (xs:=[P]) (by rfl) hP e1)).trans ?_
 have hle:=ordL_le R
 have cm0:ev cf [some P,some T,some (.list (oI q (ordL R))),u1,none,none,none,none,none,none,none] (.comp (.bin .mul (.bin .add (.index (.var 2) (.prim .abs [(.var 5)])) (.const (.int 1))) (.idx (.lst [(.const (.int 1)),(.neg (.const (.int 1)))]) (.prim .intOf [(.cmp .lt (.var 5) (.const (.int 0)))]))) (.one 5) .seq [(.var 0)] [])=.ok (.list (R.map fun x=>PV.int (rv (qL R) sg x))):=by
  refine ev_comp (xs:=[P]) (ds:=R.map fun x=>PV.int (rv q sg x)) (by rfl) hP ?_ (by rw [List.length_map,lim];exact o185 hm)
  refine comp_map2 ?_
  rintro ⟨l,b⟩ hx
  have hl:l∈ordL R:=mem_ordL.2 ⟨b,hx⟩
  have k1:(if rv q sg (l,b) < 0 then -rv q sg (l,b) else rv q sg (l,b))=(q l:Int)+1:=rv_abs hsg (x:=(l,b))
  have k2:=index_oI (q:=q) hl (fun k hk e=>hq k hk l hl e)
  have k6:(ordL R).idxOf l=qL R l:=rfl
  have k7:qL R l < (ordL R).length:=idxOf_lt_of_mem hl
  rw [k6] at k2
  have k5:=rv_sgn (q:=q) hsg (q':=qL R) (l,b)
  have k8:=rv_ne hsg (q:=q) (x:=(l,b))
  have k9:big ((qL R l:Int)+1)=false:=by simp [big];exact v82 hm hle k7
  have k10:mkL [PV.int 1,PV.int (-1)]=.ok (.list [PV.int 1,PV.int (-1)]):=rfl
  have k11:big 1=false:=by decide
  have k12:big (-1)=false:=by decide
  by_cases hp:rv q sg (l,b) < 0
  ·rw [if_neg (by exact o189 hp)] at k5
   rw [if_pos hp] at k1
   rw [k5]
   simp [vE1,vE2,vE4,vE6,vE7,vE9,vE14,vE20,vE21,ixL,evsN,evsC,evAndN,slot,bindK,bopA,bopM,mulVI,addVI,int2K,copLt,int2K,prAbs,prInt,p1K,absK,intB,getIdxL,clr1,hp,k1,k2,k9,k10,k12]
  ·rw [if_pos (Int.lt_iff_le_and_ne.2 ⟨Int.not_lt.1 hp,(rv_ne hsg).symm⟩)] at k5
   rw [if_neg hp] at k1
   rw [k5]
   have hp':¬ ((q l:Int)+1 < 0):=by exact o136
   simp [vE1,vE2,vE4,vE6,vE7,vE9,vE14,vE20,vE21,ixL,evsN,evsC,evAndN,slot,bindK,bopA,bopM,mulVI,addVI,int2K,copLt,int2K,prAbs,prInt,p1K,absK,intB,getIdxL,clr1,hp',k1,k2,k9,k10,k11]
 refine (zB (ρ':=[some P,some T,some (.list (oI q (ordL R))),u1,some (.list (R.map fun x=>PV.int (rv (qL R) sg x))),none,none,none,none,none,none]) (by
  simp only [xE1,cm0,bindK];rfl)).trans ?_
 have cm:ev cf [some P,some T,some (.list (oI q (ordL R))),u1,some (.list (R.map fun x=>.int (rv (qL R) sg x))),none,none,none,none,none,none] (.comp (.idx (.var 1) (.var 5)) (.one 5) .seq [(.var 2)] [])=.ok (.list ((ordL R).map fun l=>PV.int (sg l))):=by
  refine ev_comp (xs:=[.list (oI q (ordL R))]) (ds:=(ordL R).map fun l=>PV.int ((q l:Int)+1)) (by rfl) rfl ?_ (by rw [List.length_map,lim];exact o181 hm hle)
  refine comp_map2 ?_
  intro l hl
  have:=hT l hl
  simp only [clr1,evAndN,vE14,vE1,slot]
  simp [bindK,this]
 refine exs_r ?_
 simp only [xE11,vE3,vE20,vE1,evsN,evsC,cm,bindK,prTup,p1K,tupL]
 simp [slot,mkT,lim,tI,dps,dts,bindK,p1K,tupL]
end
section
variable {s:Nat} {w:List Nat} {R:List (Nat×Bool)} {sg:Nat->Int}
noncomputable def rot {α:Type} (k:Nat) (R:List α):List α:=R.drop k++R.take k
theorem rot_map {α β:Type} (f:α->β) (k:Nat) (R:List α):rot k (R.map f)=(rot k R).map f:=by simp [rot,List.map_drop,List.map_take]
theorem clip_le {n k:Nat} (h:k<=n):clip n (k:Int)=k:=by unfold clip;rw [if_neg (by exact o183)];simp;exact o184 h
theorem cut_lo {l:List PV} {k:Nat} (h:k<=l.length):cut l (clip l.length k) l.length=l.drop k:=by rw [clip_le h];simp [cut]
theorem cut_hi {l:List PV} {k:Nat} (h:k<=l.length):cut l 0 (clip l.length k)=l.take k:=by rw [clip_le h];simp [cut]
end
end Mine.Internal
end
section
namespace Mine.Internal
open PySem
theorem fmod_range (a:Int) {m:Int} (h:0 < m):0<=Int.fmod a m/\Int.fmod a m < m:=by
 rw [Int.fmod_eq_emod_of_nonneg a (by exact o192 h)]
 exact ⟨Int.emod_nonneg a (by exact o193 h),Int.emod_lt_of_pos a h⟩
noncomputable def stB:List PS:=[(.assign 3 (.bin .mod (.bin .add (.bin .add (.bin .mul (.var 3) (.var 3)) (.bin .mul (.const (.int 48271)) (.var 3))) (.var 4)) (.const (.int 2147483647)))),(.append 2 (.var 3))]
noncomputable def InR (x:Int):Prop:=0<=x/\x < 2147483647
theorem st_go {cf:Nat->List PV->Res PV} {A B:PV}:∀ {ks:List Int} {acc:List Int} {num:Int} {u:Option PV},0<=num->num < 2147531918->acc.length+ks.length < 1000 ->
  ∃ ys num' u',ys.length=ks.length/\(∀ y∈ys,InR y)/\forGo (fun ρ'=>exs cf ρ' stB) (.one 4) (ks.map PV.int) [some A,some B,some (.list (acc.map .int)),some (.int num),u,none,none,none,none,none,none]=.ok (.next [some A,some B,some (.list ((acc++ys).map .int)),some (.int num'),u',none,none,none,none,none,none])
 | [],acc,num,u,_,_,_=>⟨[],num,u,rfl,by simp,by simp [forN]⟩
 | k::ks,acc,num,u,h0,h1,hl=>by
  have hr:=fmod_range (num*num+48271*num+k) (m:=2147483647) (by decide)
  obtain ⟨ys,num',u',e1,e2,e3⟩:=st_go (cf:=cf) (A:=A) (B:=B) (ks:=ks) (acc:=acc++[Int.fmod (num*num+48271*num+k) 2147483647]) (num:=Int.fmod (num*num+48271*num+k) 2147483647) (u:=some (.int k)) hr.1 (by exact o198 hr.2) (by simp at hl ⊢;exact o156 hl)
  refine ⟨Int.fmod (num*num+48271*num+k) 2147483647::ys,num',u',by simp [e1],?_,?_⟩
  ·intro y hy;rcases List.mem_cons.1 hy with rfl | h
   ·exact hr
   ·exact e2 y h
  ·rw [List.append_assoc] at e3
   refine Eq.trans ?_ e3
   rw [List.map_cons]
   refine zH (ρ1:=[some A,some B,some (.list (acc.map .int)),some (.int num),some (.int k),none,none,none,none,none,none]) (by simp [tgt1]) ?_
   have b1:big num=false:=by simp [big];exact v85 h0 h1
   have b2:big 48271=false:=by decide
   have l1:acc.length < 16777216:=by simp at hl;exact o158 hl
   simp [stB,exsN,exsC,xE1,xE5,vE1,vE2,vE6,slot,bindK,bopA,bopM,mulVI,bopR,addVI,int2K,int2K,lim,b1,b2,l1]
theorem upto0 (n:Nat):upto 0 (n:Int)=(List.range n).map fun (k:Nat)=>PV.int (k:Int):=by
 simp [upto]
theorem items_r1 {n:Nat} (h:n<=1000):items .range1 [.int (n:Int)]=.ok ((List.range n).map fun (k:Nat)=>PV.int (k:Int)):=by
 have h1:(0:Int)<=n:=by exact o190
 have h2:(n:Int)<=(lim:Nat):=by rw [lim];exact o195 h
 rw [items_range,decide_eq_true h1,decide_eq_true h2,if_pos (show (true&&true)=true from rfl),upto0]
theorem stream {n:Nat} (c:Int) {many:Nat} (hm:many<=20):∃ xs:List Int,xs.length=many/\(∀ x∈xs,InR x)/\callN zA (n+1) 21 [.int c,.int many]=.ok (.list (xs.map .int)):=by
 have hr:=fmod_range c (m:=2147483647) (by decide)
 rw [c2 (by rfl)]
 generalize callN zA n=cf
 obtain ⟨ys,num',u',e1,e2,e3⟩:=st_go (cf:=cf) (A:=.int c) (B:=.int many) (ks:=(List.range (many+1)).map fun (k:Nat)=>(k:Int)) (acc:=[]) (num:=Int.fmod c 2147483647+48271) (u:=none) (by exact o196 hr.1) (by exact o197 hr.2) (by simp;exact o199 hm)
 refine ⟨ys.drop 1,by simp [e1],fun x hx=>e2 x (List.mem_of_mem_drop hx),?_⟩
 refine run2 (o:=.ret _) (ρ:=[some (.int c),some (.int many),none,none,none,none,none,none,none,none,none]) rfl rfl ?_
 refine (zB (ρ':=[some (.int c),some (.int many),some (.list (([]:List Int).map .int)),none,none,none,none,none,none,none,none]) (by rfl)).trans ?_
 refine (zB (ρ':=[some (.int c),some (.int many),some (.list (([]:List Int).map .int)),some (.int (Int.fmod c 2147483647+48271)),none,none,none,none,none,none,none]) (by rfl)).trans ?_
 have e4:(List.map PV.int (List.map (fun (k:Nat)=>(k:Int)) (List.range (many+1))))=(List.range (many+1)).map fun (k:Nat)=>PV.int (k:Int):=by rw [List.map_map];rfl
 rw [e4] at e3
 refine (zB (ex_for (xs:=[.int ((many+1:Nat):Int)]) (by rfl) (items_r1 (by exact o202 hm)) e3)).trans ?_
 refine exs_r ?_
 have hl:(ys.map PV.int).length=many+1:=by simp [e1]
 have hc:=cut_lo (l:=ys.map PV.int) (k:=1) (by exact o207 hl)
 simp only [Int.natCast_one] at hc
 simp only [xE11,vE16,vE1,vE2,slot]
 simp [bindK,sliceLL]
 simp at hc
 exact hc
noncomputable def aI (a:List Nat):List PV:=a.map fun (x:Nat)=>PV.int (x:Int)
noncomputable def wI (wd:List (Nat×Int)):List PV:=wd.map fun p=>PV.tuple [.int (p.1:Int),.int p.2]
theorem aI_get {a:List Nat} {k:Nat} (h:k < a.length):(aI a)[k]?=some (.int ((a.getD k 0:Nat):Int)):=by
 simp [aI,List.getD,h]
theorem aI_len {a:List Nat}:(aI a).length=a.length:=by simp [aI]
noncomputable def cyB:List PS:=[(.assign 2 (.bin .add (.bin .add (.slH (.var 2) (.var 3)) (.lst [(.idx (.var 2) (.bin .add (.var 3) (.const (.int 1)))),(.idx (.var 2) (.var 3))])) (.slL (.var 2) (.bin .add (.var 3) (.const (.int 2))))))]
theorem cy_step {cf:Nat->List PV->Res PV} {A B u v:Option PV} {a:List Nat} {i:Nat} (h:i+1 < a.length) (hl:a.length<=10):
  exs cf [A,B,some (.list (aI a)),some (.int i),u,v,none,none,none,none,none,none,none,none] cyB=.ok (.next [A,B,some (.list (aI (sw i a))),some (.int i),u,v,none,none,none,none,none,none,none,none]):=by
 have g1:=aI_get (a:=a) (k:=i) (by exact o85 h)
 have g2:=aI_get (a:=a) (k:=i+1) h
 have c1:=cut_hi (l:=aI a) (k:=i) (by rw [aI_len];exact o200 h)
 have c2:=cut_lo (l:=aI a) (k:=i+2) (by rw [aI_len];exact o201 h)
 have t1:((i:Int)+1).toNat=i+1:=by exact v51
 have t2:(0:Int)<=(i:Int)+1:=by exact o187
 have m1:mkL [PV.int ((a.getD (i+1) 0:Nat):Int),PV.int ((a.getD i 0:Nat):Int)]=.ok (.list [PV.int ((a.getD (i+1) 0:Nat):Int),PV.int ((a.getD i 0:Nat):Int)]):=rfl
 have m2:mkL ((aI a).take i++[PV.int ((a.getD (i+1) 0:Nat):Int),PV.int ((a.getD i 0:Nat):Int)])=.ok (.list ((aI a).take i++[PV.int ((a.getD (i+1) 0:Nat):Int),PV.int ((a.getD i 0:Nat):Int)])):=by
  have:((aI a).take i++[PV.int ((a.getD (i+1) 0:Nat):Int),PV.int ((a.getD i 0:Nat):Int)]).length<=lim:=by
   rw [List.length_append,List.length_take,aI_len,lim];simp;exact o209 hl
  unfold mkL;rw [if_pos this]
 have e:aI (sw i a)=(aI a).take i++[PV.int ((a.getD (i+1) 0:Nat):Int),PV.int ((a.getD i 0:Nat):Int)]++(aI a).drop (i+2):=by
  simp [aI,sw,List.map_take,List.map_drop]
 have m3:mkL ((aI a).take i++[PV.int ((a.getD (i+1) 0:Nat):Int),PV.int ((a.getD i 0:Nat):Int)]++(aI a).drop (i+2))=.ok (.list (aI (sw i a))):=by
  have:(aI (sw i a)).length<=lim:=by rw [aI_len,sw_len h,lim];exact o164 hl
  rw [<-e];unfold mkL;rw [if_pos this]
 generalize a.getD (i+1) 0=y at *
 generalize a.getD i 0=z at *
 have e2:((i:Int)+2)=((i+2:Nat):Int):=by exact o210
 simp only [cyB,exsN,exsC,xE1,vE1,vE2,vE4,vE6,vE14,vE16,vE17,evsN,evsC,slot]
 simp only [List.getElem?_cons_succ,List.getElem?_cons_zero,bindK,sliceLL,sliceHL,c1,bopA,addVI,addVL,getIdxL,t1,t2,if_true,g1,g2,m1,m2,e2,c2,m3,Int.toNat_natCast,Int.natCast_nonneg]
 rfl
theorem cy_go {cf:Nat->List PV->Res PV} {s:Nat} (hs:s<=10) {A B:Option PV}:∀ {wd:List (Nat×Int)} {a:List Nat} {u v:Option PV},a.length=s->(∀ p∈wd,p.1+1 < s) ->
  ∃ u' v',forGo (fun ρ'=>exs cf ρ' cyB) (.many [3,4]) (wI wd) [A,B,some (.list (aI a)),u,v,none,none,none,none,none,none,none,none,none]=.ok (.next [A,B,some (.list (aI (swAll a (wd.map (·.1))))),u',v',none,none,none,none,none,none,none,none,none])
 | [],a,u,v,_,_=>⟨u,v,by simp [forN,wI,swAll]⟩
 | (i,t)::wd,a,u,v,ha,h=>by
  have hi:=h (i,t) (by simp)
  simp at hi
  obtain ⟨u',v',e⟩:=cy_go (cf:=cf) hs (A:=A) (B:=B) (wd:=wd) (a:=sw i a) (u:=some (.int i)) (v:=some (.int t)) (by rw [sw_len (by exact o115 ha hi)];exact ha) (fun p hp=>h p (by simp [hp]))
  refine ⟨u',v',?_⟩
  refine Eq.trans ?_ e
  show forGo _ _ (PV.tuple [.int (i:Int),.int t]::wI wd) _=_
  exact zH (ρ1:=[A,B,some (.list (aI a)),some (.int i),some (.int t),none,none,none,none,none,none,none,none,none]) (by simp [tgtM]) (cy_step (by exact o115 ha hi) (by exact o206 hs ha))
noncomputable def hdS (a hd:List Nat) (pl:Nat):List Nat:=hd.map fun h=>if h=hd.getD (a.getD pl 0) 0 then hd.getD pl 0 else h
noncomputable def chB:List PS:=[(.assign 7 (.idx (.var 5) (.idx (.var 2) (.var 6)))),(.assign 5 (.comp (.ite (.cmp .eq (.var 8) (.var 7)) (.idx (.var 5) (.var 6)) (.var 8)) (.one 8) .seq [(.var 5)] []))]
theorem ch_step {cf:Nat->List PV->Res PV} {A B u v x7:Option PV} {a hd:List Nat} {pl:Nat} (h1:pl < hd.length) (h2:pl < a.length) (h3:a.getD pl 0 < hd.length) (hl:hd.length<=10):
  ∃ x7',exs cf [A,B,some (.list (aI a)),u,v,some (.list (aI hd)),some (.int pl),x7,none,none,none,none,none,none] chB=.ok (.next [A,B,some (.list (aI a)),u,v,some (.list (aI (hdS a hd pl))),some (.int pl),x7',none,none,none,none,none,none]):=by
 have g1:=aI_get h1
 have g2:=aI_get h2
 have g3:=aI_get h3
 generalize hy:a.getD pl 0=y at *
 generalize hz:hd.getD y 0=z at *
 generalize hx:hd.getD pl 0=x at *
 refine ⟨some (.int z),?_⟩
 unfold chB
 refine (zB (ρ':=[A,B,some (.list (aI a)),u,v,some (.list (aI hd)),some (.int pl),some (.int z),none,none,none,none,none,none]) (by
  simp only [xE1,vE14,vE1,slot]
  simp [bindK,getIdxL,g2,g3])).trans ?_
 have cm:ev cf [A,B,some (.list (aI a)),u,v,some (.list (aI hd)),some (.int pl),some (.int z),none,none,none,none,none,none] (.comp (.ite (.cmp .eq (.var 8) (.var 7)) (.idx (.var 5) (.var 6)) (.var 8)) (.one 8) .seq [(.var 5)] [])=.ok (.list (aI (hdS a hd pl))):=by
  refine ev_comp (xs:=[.list (aI hd)]) (ds:=hd.map fun (x:Nat)=>PV.int (x:Int)) (by rfl) rfl ?_ (by rw [aI_len,hdS,List.length_map,lim];exact o164 hl)
  have e:aI (hdS a hd pl)=hd.map fun h=>PV.int ((if h=z then x else h:Nat):Int):=by
   rw [aI,hdS,hy,hz,hx,List.map_map];rfl
  rw [e]
  refine comp_map2 ?_
  intro h hh
  by_cases he:h=z
  ·subst he;simp [vE1,vE9,vE13,vE14,evAndN,slot,bindK,copE,getIdxL,eqII,flatI,depI,clr1,g1]
  ·have he':¬ ((h:Int)=(z:Int)):=by exact o211 he
   simp [vE1,vE9,vE13,vE14,evAndN,slot,bindK,copE,getIdxL,eqII,flatI,depI,clr1,g1,he,he']
 refine (zB ?_).trans exs_0
 simp only [xE1,cm,bindK];rfl
theorem hdS_len {a hd:List Nat} {pl:Nat}:(hdS a hd pl).length=hd.length:=by simp [hdS]
theorem ch_go {cf:Nat->List PV->Res PV} {s:Nat} (hs:s<=10) {A B u v:Option PV} {a:List Nat} (ha:a.length=s) (hA:∀ k,k < s->a.getD k 0 < s):∀ {pls:List Nat} {hd:List Nat} {x6 x7:Option PV},hd.length=s->(∀ p∈pls,p < s) ->
  ∃ x6' x7',forGo (fun ρ'=>exs cf ρ' chB) (.one 6) (pls.map fun (k:Nat)=>PV.int (k:Int)) [A,B,some (.list (aI a)),u,v,some (.list (aI hd)),x6,x7,none,none,none,none,none,none]=.ok (.next [A,B,some (.list (aI a)),u,v,some (.list (aI (pls.foldl (hdS a) hd))),x6',x7',none,none,none,none,none,none])
 | [],hd,x6,x7,_,_=>⟨x6,x7,by simp [forN]⟩
 | p::pls,hd,x6,x7,hh,hp=>by
  have hps:=hp p (by simp)
  obtain ⟨y7,e0⟩:=ch_step (cf:=cf) (A:=A) (B:=B) (u:=u) (v:=v) (x7:=x7) (a:=a) (hd:=hd) (pl:=p) (by exact o203 hh hps) (by exact o203 ha hps) (by have:=hA p hps;exact o203 hh this) (by exact o206 hs hh)
  obtain ⟨x6',x7',e⟩:=ch_go (cf:=cf) hs (A:=A) (B:=B) (u:=u) (v:=v) ha hA (pls:=pls) (hd:=hdS a hd p) (x6:=some (.int p)) (x7:=y7) (by rw [hdS_len];exact hh) (fun k hk=>hp k (by simp [hk]))
  refine ⟨x6',x7',?_⟩
  refine Eq.trans ?_ e
  rw [List.map_cons]
  exact zH (ρ1:=[A,B,some (.list (aI a)),u,v,some (.list (aI hd)),some (.int p),x7,none,none,none,none,none,none]) (by simp [tgt1]) e0
theorem perms_ok:∀ s,s < 5->∀ a∈perms s,a.length=s/\∀ k,k < s->a.getD k 0 < s:=by decide +kernel
theorem listRange {cf:Nat->List PV->Res PV} {ρ:Slots} {s:Nat} (hs:s < 5) (h:slot ρ 0=.ok (.int s)):ev cf ρ (.prim .listRange [(.var 0)])=.ok (.list (aI (List.range s))):=by
 have hl:(aI (List.range s)).length<=lim:=by rw [aI_len,List.length_range,lim];exact o204 hs
 have h2:=items_r1 (n:=s) (by exact o205 hs)
 simp only [vE20,vE1,evsN,evsC,h,bindK,prRng,h2]
 exact if_pos hl
theorem cycles {n s:Nat} (h0:0 < s) (hs:s < 5) {wd:List (Nat×Int)} (hw:∀ p∈wd,p.1+1 < s):callN zA (n+1) 23 [.int s,.list (wI wd)]=.ok (.list (aI (heds s (swAll (List.range s) (wd.map (·.1)))))):=by
 have hp:=perms_ok s hs _ (perms_all hs (w:=wd.map (·.1)) (by simpa using hw) (range_perms s h0 hs))
 rw [c2 (by rfl)]
 generalize callN zA n=cf
 obtain ⟨u,v,e1⟩:=cy_go (cf:=cf) (s:=s) (by exact o208 hs) (A:=some (.int s)) (B:=some (.list (wI wd))) (wd:=wd) (a:=List.range s) (u:=none) (v:=none) (by simp) hw
 obtain ⟨x6,x7,e2⟩:=ch_go (cf:=cf) (s:=s) (by exact o208 hs) (A:=some (.int s)) (B:=some (.list (wI wd))) (u:=u) (v:=v) hp.1 hp.2 (pls:=List.range s) (hd:=List.range s) (x6:=none) (x7:=none) (by simp) (by simp)
 refine run2 (o:=.ret _) (ρ:=[some (.int s),some (.list (wI wd)),none,none,none,none,none,none,none,none,none,none,none,none]) rfl rfl ?_
 refine (zB (ρ':=[some (.int s),some (.list (wI wd)),some (.list (aI (List.range s))),none,none,none,none,none,none,none,none,none,none,none]) (by
  rw [xE1,listRange hs rfl];rfl)).trans ?_
 refine (zB (ex_for (xs:=[.list (wI wd)]) (by rfl) rfl e1)).trans ?_
 refine (zB (ρ':=[some (.int s),some (.list (wI wd)),some (.list (aI (swAll (List.range s) (wd.map (·.1))))),u,v,some (.list (aI (List.range s))),none,none,none,none,none,none,none,none]) (by
  rw [xE1,listRange hs rfl];rfl)).trans ?_
 refine (zB (ex_for (xs:=[.int s]) (by rfl) (items_r1 (by exact o205 hs)) e2)).trans ?_
 exact exs_r (by simp only [xE11,vE1];rfl)
end Mine.Internal
end
section
namespace Mine.Internal
open PySem
noncomputable def pm (v:Int):Int:=if Int.fmod v 2=0 then 1 else -1
theorem pm_ok (v:Int):pm v=1\/pm v=-1:=by unfold pm;split<;>simp
theorem ev_pm {cf:Nat->List PV->Res PV} {ρ:Slots} {e:PE} {v:Int} (h:ev cf ρ e=.ok (.int v)):ev cf ρ (.idx (.lst [(.const (.int 1)),(.neg (.const (.int 1)))]) (.bin .mod e (.const (.int 2))))=.ok (.int (pm v)):=by
 have hr:=fmod_range v (m:=2) (by decide)
 have k10:mkL [PV.int 1,PV.int (-1)]=.ok (.list [PV.int 1,PV.int (-1)]):=rfl
 unfold pm
 by_cases h0:Int.fmod v 2=0
 ·simp [vE2,vE4,vE6,vE7,vE14,evsN,evsC,bindK,bopR,int2K,int2K,getIdxL,h,k10,h0]
 ·have h1:Int.fmod v 2=1:=by exact o214 hr.1 hr.2 h0
  simp [vE2,vE4,vE6,vE7,vE14,evsN,evsC,bindK,bopR,int2K,int2K,getIdxL,h,k10,h1]
theorem xs_get {xs:List Int} {k:Nat} (h:k < xs.length):(xs.map PV.int)[k]?=some (.int (xs.getD k 0)):=by simp [List.getD,h]
noncomputable def WOk (s:Nat) (wd:List (Nat×Int)):Prop:=∀ p∈wd,p.1+1 < s/\(p.2=1\/p.2=-1)
theorem wI_app (wd:List (Nat×Int)) (p:Nat×Int):wI (wd++[p])=wI wd++[PV.tuple [.int (p.1:Int),.int p.2]]:=by simp [wI]
theorem wI_len (wd:List (Nat×Int)):(wI wd).length=wd.length:=by simp [wI]
noncomputable def brB:List PS:=[(.append 4 (.tup [(.bin .mod (.idx (.var 2) (.bin .add (.const (.int 2)) (.var 5))) (.prim .max2 [(.const (.int 1)),(.bin .sub (.var 3) (.const (.int 1)))])),(.idx (.lst [(.const (.int 1)),(.neg (.const (.int 1)))]) (.bin .mod (.bin .fdiv (.idx (.var 2) (.bin .add (.const (.int 2)) (.var 5))) (.const (.int 7))) (.const (.int 2))))]))]
theorem br_step {cf:Nat->List PV->Res PV} {A B u:Option PV} {xs:List Int} {s k:Nat} (hs:2<=s) (hk:k+2 < xs.length) {wd:List (Nat×Int)} (hw:WOk s wd) (hl:wd.length < 100):
  ∃ p,WOk s (wd++[p])/\exs cf [A,B,some (.list (xs.map .int)),some (.int s),some (.list (wI wd)),some (.int k),u,none,none,none,none,none,none] brB=.ok (.next [A,B,some (.list (xs.map .int)),some (.int s),some (.list (wI (wd++[p]))),some (.int k),u,none,none,none,none,none,none]):=by
 have g:=xs_get (xs:=xs) (k:=k+2) hk
 generalize xs.getD (k+2) 0=v at g
 have hr:=fmod_range v (m:=(s:Int)-1) (by exact o213 hs)
 have t1:((2:Int)+k).toNat=k+2:=by exact v50
 have t2:(0:Int)<=2+k:=by exact o217
 have a1:ev cf [A,B,some (.list (xs.map .int)),some (.int s),some (.list (wI wd)),some (.int k),u,none,none,none,none,none,none] (.idx (.var 2) (.bin .add (.const (.int 2)) (.var 5)))=.ok (.int v):=by
  simp only [vE14,vE1,vE2,vE6,slot]
  simp only [List.getElem?_cons_succ,List.getElem?_cons_zero,bindK,bopA,addVI,getIdxL,t1,t2,if_true,g]
 have a2:ev cf [A,B,some (.list (xs.map .int)),some (.int s),some (.list (wI wd)),some (.int k),u,none,none,none,none,none,none] (.bin .mod (.idx (.var 2) (.bin .add (.const (.int 2)) (.var 5))) (.prim .max2 [(.const (.int 1)),(.bin .sub (.var 3) (.const (.int 1)))]))=.ok (.int (Int.fmod v ((s:Int)-1))):=by
  rw [vE6,a1]
  have h1:(if (1:Int) < (s:Int)-1 then (s:Int)-1 else 1)=(s:Int)-1:=by split<;>(first | exact o218 | exact o219 hs (by assumption))
  have h2:¬ ((s:Int)-1=0):=by exact o220 hs
  simp only [vE20,vE1,vE2,vE6,evsN,evsC,slot,List.getElem?_cons_succ,List.getElem?_cons_zero,bindK,bopS,bopR,int2K,prMax,p2K,h1,h2,if_false]
 have a3:ev cf [A,B,some (.list (xs.map .int)),some (.int s),some (.list (wI wd)),some (.int k),u,none,none,none,none,none,none] (.bin .fdiv (.idx (.var 2) (.bin .add (.const (.int 2)) (.var 5))) (.const (.int 7)))=.ok (.int (Int.fdiv v 7)):=by
  rw [vE6,a1]
  simp [bindK,vE2,bopF,int2K]
 have a4:=ev_pm a3
 have e:((Int.fmod v ((s:Int)-1)).toNat:Int)=Int.fmod v ((s:Int)-1):=by exact v53 hr.1
 refine ⟨((Int.fmod v ((s:Int)-1)).toNat,pm (Int.fdiv v 7)),?_,?_⟩
 ·intro p hp
  rcases List.mem_append.1 hp with h | h
  ·exact hw p h
  ·simp at h;subst h;exact ⟨by simp;exact v54 hs hr.2,pm_ok _⟩
 ·rw [wI_app];simp only
  rw [e]
  have hl2:(wI wd).length < lim:=by rw [wI_len,lim];exact o221 hl
  have m2:∀ a b:PV,mkT [a,b]=.ok (.tuple [a,b]):=fun a b=>rfl
  simp only [brB,exsN,exsC,xE5,vE3,evsN,evsC,a2,a4,bindK,slot,List.getElem?_cons_succ,List.getElem?_cons_zero,m2,hl2,decide_true,if_true]
  rfl
theorem br_go {cf:Nat->List PV->Res PV} {A B u:Option PV} {xs:List Int} {s:Nat} (hs:2<=s):∀ {ks:List Nat} {wd:List (Nat×Int)} {x5:Option PV},(∀ k∈ks,k+2 < xs.length)->WOk s wd->wd.length+ks.length < 100 ->
  ∃ wd' x5',WOk s wd'/\wd'.length=wd.length+ks.length/\forGo (fun ρ'=>exs cf ρ' brB) (.one 5) (ks.map fun (k:Nat)=>PV.int (k:Int)) [A,B,some (.list (xs.map .int)),some (.int s),some (.list (wI wd)),x5,u,none,none,none,none,none,none]=.ok (.next [A,B,some (.list (xs.map .int)),some (.int s),some (.list (wI wd')),x5',u,none,none,none,none,none,none])
 | [],wd,x5,_,hw,_=>⟨wd,x5,hw,rfl,rfl⟩
 | k::ks,wd,x5,hk,hw,hl=>by
  simp at hl
  obtain ⟨p,hp,e0⟩:=br_step (cf:=cf) (A:=A) (B:=B) (u:=u) hs (hk k (by simp)) hw (by exact o215 hl)
  obtain ⟨wd',x5',h1,h2,e⟩:=br_go (cf:=cf) (A:=A) (B:=B) (u:=u) (xs:=xs) hs (ks:=ks) (wd:=wd++[p]) (x5:=some (.int k)) (fun k' hk'=>hk k' (by simp [hk'])) hp (by simp;exact o216 hl)
  refine ⟨wd',x5',h1,by simp at h2 ⊢;exact o109 h2,?_⟩
  refine Eq.trans ?_ e
  rw [List.map_cons]
  exact zH (ρ1:=[A,B,some (.list (xs.map .int)),some (.int s),some (.list (wI wd)),some (.int k),u,none,none,none,none,none,none]) rfl e0
noncomputable def bcB:List PS:=[(.assign 6 (.call 23 true [(.var 3),(.var 4)])),(.ite (.cmp .ne (.idx (.var 6) (.var 5)) (.idx (.var 6) (.bin .add (.var 5) (.const (.int 1))))) [(.append 4 (.tup [(.var 5),(.idx (.lst [(.const (.int 1)),(.neg (.const (.int 1)))]) (.bin .mod (.bin .fdiv (.bin .fdiv (.idx (.var 2) (.const (.int 1))) (.const (.int 16))) (.bin .add (.var 5) (.const (.int 1)))) (.const (.int 2))))]))] [])]
theorem imms_aI:∀ (a:List Nat),PV.imms (aI a)=true
 | []=>rfl
 | _::a=>by simpa [aI,immsN,immsC,immI,immT] using imms_aI a
theorem heds_len (s:Nat) (a:List Nat):(heds s a).length=s:=by
 have:∀ (pls hd:List Nat),(pls.foldl (hdS a) hd).length=hd.length:=by
  intro pls;induction pls with
  | nil=>intro hd;rfl
  | cons p pls ih=>intro hd;rw [List.foldl_cons,ih,hdS_len]
 have h:=this (List.range s) (List.range s)
 rw [List.length_range] at h;exact h
theorem bc_step {cf:Nat->List PV->Res PV} {A B u:Option PV} {xs:List Int} {s k:Nat} {hd:List Nat} (hx:1 < xs.length) (hk:k+1 < hd.length) (hl:hd.length<=10) {wd:List (Nat×Int)} (hwl:wd.length < 100)
  (h14:cf 23 [.int s,.list (wI wd)]=.ok (.list (aI hd))):
  ∃ t u',(t=1\/t=-1)/\exs cf [A,B,some (.list (xs.map .int)),some (.int s),some (.list (wI wd)),some (.int k),u,none,none,none,none,none,none] bcB=.ok (.next [A,B,some (.list (xs.map .int)),some (.int s),some (.list (wI (if hd.getD k 0≠hd.getD (k+1) 0 then wd++[(k,t)] else wd))),some (.int k),u',none,none,none,none,none,none]):=by
 have g1:=aI_get (a:=hd) (k:=k) (by exact o85 hk)
 have g2:=aI_get (a:=hd) (k:=k+1) hk
 have g3:=xs_get (xs:=xs) (k:=1) hx
 generalize hd.getD k 0=y at g1 ⊢
 generalize hd.getD (k+1) 0=z at g2 ⊢
 generalize xs.getD 1 0=v at g3
 have t1:((k:Int)+1).toNat=k+1:=by exact v51
 have t2:(0:Int)<=(k:Int)+1:=by exact o187
 have cl:(PV.list (aI hd)).clean=true:=imms_aI hd
 refine ⟨pm (Int.fdiv (Int.fdiv v 16) ((k:Int)+1)),some (.list (aI hd)),pm_ok _,?_⟩
 refine (zB (ρ':=[A,B,some (.list (xs.map .int)),some (.int s),some (.list (wI wd)),some (.int k),some (.list (aI hd)),none,none,none,none,none,none]) (by
  simp only [xE1,vE19,vE1,evsN,evsC,slot,List.getElem?_cons_succ,List.getElem?_cons_zero,bindK,h14,cl,Bool.or_true,if_true];rfl)).trans ?_
 refine (zB ?_).trans exs_0
 have a1:ev cf [A,B,some (.list (xs.map .int)),some (.int s),some (.list (wI wd)),some (.int k),some (.list (aI hd)),none,none,none,none,none,none] (.cmp .ne (.idx (.var 6) (.var 5)) (.idx (.var 6) (.bin .add (.var 5) (.const (.int 1)))))=.ok (.bool (decide (y≠z))):=by
  simp only [vE9,vE14,vE6,vE1,vE2,slot,List.getElem?_cons_succ,List.getElem?_cons_zero,bindK,getIdxL,Int.natCast_nonneg,if_true,Int.toNat_natCast,g1,bopA,addVI,t1,t2,g2,copN,flatI,depI,eqII]
  by_cases h:y=z
  ·subst h;simp [bindK]
  ·have h':¬ ((y:Int)=z):=by exact o211 h
   simp [h,h',bindK]
 have a2:ev cf [A,B,some (.list (xs.map .int)),some (.int s),some (.list (wI wd)),some (.int k),some (.list (aI hd)),none,none,none,none,none,none] (.bin .fdiv (.bin .fdiv (.idx (.var 2) (.const (.int 1))) (.const (.int 16))) (.bin .add (.var 5) (.const (.int 1))))=.ok (.int (Int.fdiv (Int.fdiv v 16) ((k:Int)+1))):=by
  have h1:¬ ((k:Int)+1=0):=by exact o133
  have h2:¬ (1073741824<=((k:Int)+1).natAbs):=by exact v52 hk hl
  have h3:(xs.map PV.int)[(1:Int).toNat]?=some (.int v):=g3
  have h4:((16:Int)=0)=False:=by simp
  have h5:(1073741824<=(16:Int).natAbs)=False:=by simp
  have h6:((0:Int)<=1)=True:=by simp
  simp only [vE14,vE6,vE1,vE2,slot,List.getElem?_cons_succ,List.getElem?_cons_zero,bindK,getIdxL,h6,if_true,h3,bopA,bopF,addVI,int2K,h1,h2,h4,h5,decide_false,Bool.or_false,Bool.false_eq_true,if_false]
 have a3:=ev_pm a2
 rw [xE8,a1]
 by_cases h:y=z
 ·subst h;simp [bindK,exsN,exsC]
 ·have hl2:(wI wd).length < lim:=by rw [wI_len,lim];exact o221 hwl
  have m2:∀ a b:PV,mkT [a,b]=.ok (.tuple [a,b]):=fun a b=>rfl
  simp only [bindK,ne_eq,h,not_false_eq_true,decide_true,if_true,exsN,exsC,xE5,vE3,vE1,evsN,evsC,a3,slot,List.getElem?_cons_succ,List.getElem?_cons_zero,m2,hl2,wI_app]
  rfl
theorem bc_go {cf:Nat->List PV->Res PV} {A B:Option PV} {xs:List Int} {s:Nat} (hs:2<=s) (h5:s < 5) (hx:1 < xs.length) (h14:∀ {wd:List (Nat×Int)},(∀ p∈wd,p.1+1 < s)->cf 23 [.int s,.list (wI wd)]=.ok (.list (aI (heds s (swAll (List.range s) (wd.map (·.1))))))):
  ∀ {ks:List Nat} {wd:List (Nat×Int)} {x5 u:Option PV},(∀ k∈ks,k+1 < s)->WOk s wd->wd.length+ks.length < 100 ->
  ∃ wd' x5' u',WOk s wd'/\wd'.map (·.1)=wd.map (·.1)++clo s ks (swAll (List.range s) (wd.map (·.1)))/\wd'.length<=wd.length+ks.length/\forGo (fun ρ'=>exs cf ρ' bcB) (.one 5) (ks.map fun (k:Nat)=>PV.int (k:Int)) [A,B,some (.list (xs.map .int)),some (.int s),some (.list (wI wd)),x5,u,none,none,none,none,none,none]=.ok (.next [A,B,some (.list (xs.map .int)),some (.int s),some (.list (wI wd')),x5',u',none,none,none,none,none,none])
 | [],wd,x5,u,_,hw,_=>⟨wd,x5,u,hw,by simp [cloN],by simp,rfl⟩
 | k::ks,wd,x5,u,hk,hw,hl=>by
  simp at hl
  have hk0:=hk k (by simp)
  have hln:=heds_len s (swAll (List.range s) (wd.map (·.1)))
  obtain ⟨t,u1,ht,e0⟩:=bc_step (cf:=cf) (A:=A) (B:=B) (u:=u) (s:=s) (k:=k) (hd:=heds s (swAll (List.range s) (wd.map (·.1)))) hx (by exact o222 hk0 hln) (by exact o223 h5 hln) (wd:=wd) (by exact o215 hl) (h14 fun p hp=>(hw p hp).1)
  by_cases hc:(heds s (swAll (List.range s) (wd.map (·.1)))).getD k 0≠(heds s (swAll (List.range s) (wd.map (·.1)))).getD (k+1) 0
  ·rw [if_pos hc] at e0
   have hw1:WOk s (wd++[(k,t)]):=by
    intro p hp
    rcases List.mem_append.1 hp with h | h
    ·exact hw p h
    ·simp at h;subst h;exact ⟨hk0,ht⟩
   obtain ⟨wd',x5',u',h1,h2,h3,e⟩:=bc_go (cf:=cf) (A:=A) (B:=B) (xs:=xs) hs h5 hx h14 (ks:=ks) (wd:=wd++[(k,t)]) (x5:=some (.int k)) (u:=u1) (fun k' hk'=>hk k' (by simp [hk'])) hw1 (by simp;exact o216 hl)
   refine ⟨wd',x5',u',h1,?_,by simp at h3 ⊢;exact o175 h3,?_⟩
   ·rw [h2];simp only [cloC];rw [if_pos hc];simp [swAll]
   ·refine Eq.trans ?_ e
    rw [List.map_cons]
    exact zH (ρ1:=[A,B,some (.list (xs.map .int)),some (.int s),some (.list (wI wd)),some (.int k),u,none,none,none,none,none,none]) rfl e0
  ·rw [if_neg hc] at e0
   obtain ⟨wd',x5',u',h1,h2,h3,e⟩:=bc_go (cf:=cf) (A:=A) (B:=B) (xs:=xs) hs h5 hx h14 (ks:=ks) (wd:=wd) (x5:=some (.int k)) (u:=u1) (fun k' hk'=>hk k' (by simp [hk'])) hw (by exact o224 hl)
   refine ⟨wd',x5',u',h1,?_,by simp;exact o174 h3,?_⟩
   ·rw [h2];simp only [cloC];rw [if_neg hc]
   ·refine Eq.trans ?_ e
    rw [List.map_cons]
    exact zH (ρ1:=[A,B,some (.list (xs.map .int)),some (.int s),some (.list (wI wd)),some (.int k),u,none,none,none,none,none,none]) rfl e0
end Mine.Internal
end
section
namespace Mine.Internal
open PySem
structure Braid (s:Nat) (wd:List (Nat×Int)):Prop where
 h0:0 < s
 h5:s < 5
 ok:WOk s wd
 len:wd.length<=10
 one:s=1->wd=[]
 more:2<=s->∃ w0:List Nat,(∀ i∈w0,i+1 < s)/\wd.map (·.1)=w0++clo s (List.range (s-1)) (swAll (List.range s) w0)
theorem br_a3 {cf:Nat->List PV->Res PV} {A B:Option PV} {xs:List Int} (h:1 < xs.length) {s:Nat} (hs:(s:Int)=1+Int.fmod (xs.getD 0 0) 4):
  ex cf [A,B,some (.list (xs.map .int)),none,none,none,none,none,none,none,none,none,none] (.assign 3 (.bin .add (.const (.int 1)) (.bin .mod (.idx (.var 2) (.const (.int 0))) (.const (.int 4)))))=.ok (.next [A,B,some (.list (xs.map .int)),some (.int s),none,none,none,none,none,none,none,none,none]):=by
 have g:=xs_get (xs:=xs) (k:=0) (by exact o225 h)
 generalize xs.getD 0 0=v at g hs
 have g':(xs.map PV.int)[(0:Int).toNat]?=some (.int v):=g
 have h4:((4:Int)=0)=False:=by simp
 have h6:((0:Int)<=0)=True:=by simp
 rw [hs]
 simp only [xE1,vE6,vE14,vE1,vE2,slot,List.getElem?_cons_succ,List.getElem?_cons_zero,bindK,getIdxL,g',h6,if_true,bopA,bopR,addVI,int2K,h4,if_false]
 rfl
theorem br_src {cf:Nat->List PV->Res PV} {A:Option PV} {xs:List Int} (h:1 < xs.length) {s c:Nat} {W:PV} (hc:(c:Int)=Int.fmod (xs.getD 1 0) 8*(if 1 < s then 1 else 0)):
  evs cf [A,some (.int 7),some (.list (xs.map .int)),some (.int s),some W,none,none,none,none,none,none,none,none] [(.bin .mul (.bin .mod (.idx (.var 2) (.const (.int 1))) (.bin .add (.var 1) (.const (.int 1)))) (.prim .intOf [(.cmp .gt (.var 3) (.const (.int 1)))]))]=.ok [.int c]:=by
 have g:=xs_get (xs:=xs) (k:=1) (by exact o226 h)
 generalize xs.getD 1 0=v at g hc
 have hr:=fmod_range v (m:=8) (by decide)
 have g':(xs.map PV.int)[(1:Int).toNat]?=some (.int v):=g
 have h4:((7:Int)+1)=8:=rfl
 have h5:((8:Int)=0)=False:=by simp
 have h6:((0:Int)<=1)=True:=by simp
 have b1:big (Int.fmod v 8)=false:=by simp [big];omega
 have b2:big 1=false:=by decide
 have b3:big 0=false:=by decide
 simp only [vE6,vE9,vE14,vE20,vE1,vE2,evsN,evsC,slot,List.getElem?_cons_succ,List.getElem?_cons_zero,bindK,getIdxL,g',h6,if_true,bopA,bopM,mulVI,bopR,addVI,int2K,h4,h5,if_false,copGt,int2K,prInt,p1K,intB]
 by_cases hs:1 < s
 ·have h1:((s:Int) > 1)=True:=by simp;exact o230 hs
  rw [if_pos hs] at hc
  simp [h1,b1,b2,hc,bindK]
 ·have h1:((s:Int) > 1)=False:=by simp;exact o231 hs
  rw [if_neg hs] at hc
  simp [h1,b1,b3,hc,bindK]
theorem braid {n:Nat} (x:Int):∃ s wd,Braid s wd/\callN zA (n+2) 24 [.int x,.int 7]=.ok (.tuple [.int (s:Nat),.list (wI wd)]):=by
 obtain ⟨xs,hl,hr,e12⟩:=stream (n:=n) x (many:=9) (by exact xo2)
 have e12':callN zA (n+1) 21 [.int x,.int 9]=.ok (.list (xs.map .int)):=e12
 have r4:=fmod_range (xs.getD 0 0) (m:=4) (by decide)
 have r8:=fmod_range (xs.getD 1 0) (m:=8) (by decide)
 obtain ⟨s,hs⟩:∃ s:Nat,(s:Int)=1+Int.fmod (xs.getD 0 0) 4:=⟨(1+Int.fmod (xs.getD 0 0) 4).toNat,by exact v58 r4.1⟩
 obtain ⟨c,hc⟩:∃ c:Nat,(c:Int)=Int.fmod (xs.getD 1 0) 8*(if 1 < s then 1 else 0):=⟨(Int.fmod (xs.getD 1 0) 8*(if 1 < s then 1 else 0)).toNat,by split<;>(first | exact v59 r8.1 | exact v60)⟩
 have hc7:c<=7:=by split at hc<;>(first | omega| omega)
 have h14:∀ {wd:List (Nat×Int)},(∀ p∈wd,p.1+1 < s)->callN zA (n+1) 23 [.int s,.list (wI wd)]=.ok (.list (aI (heds s (swAll (List.range s) (wd.map (·.1)))))):=fun h=>cycles (by exact o232 r4.1 hs) (by exact o233 r4.2 hs) h
 rw [c2 (by rfl)]
 generalize callN zA (n+1)=cf at *
 have head:∀ r,exs cf [some (.int x),some (.int 7),none,none,none,none,none,none,none,none,none,none,none] ((.assign 2 (.call 21 false [(.var 0),(.bin .add (.const (.int 2)) (.var 1))]))::(.assign 3 (.bin .add (.const (.int 1)) (.bin .mod (.idx (.var 2) (.const (.int 0))) (.const (.int 4)))))::(.assign 4 (.lst []))::r)=exs cf [some (.int x),some (.int 7),some (.list (xs.map .int)),some (.int s),some (.list (wI [])),none,none,none,none,none,none,none,none] r:=by
  intro r
  refine (zB (ρ':=[some (.int x),some (.int 7),some (.list (xs.map .int)),none,none,none,none,none,none,none,none,none,none]) (by first | rfl | simp [xE1,vE1,vE2,vE6,vE19,evsN,evsC,slot,bindK,bopA,addVI,e12'])).trans ?_
  refine (zB (br_a3 (by exact xo3 hl) hs)).trans ?_
  exact zB (by rfl)
 by_cases h2:2<=s
 ·obtain ⟨wd,x5,k1,k2,e1⟩:=br_go (cf:=cf) (A:=some (.int x)) (B:=some (.int 7)) (u:=none) (xs:=xs) h2 (ks:=List.range c) (wd:=[]) (x5:=none) (by simp;intro k hk;exact xo4 hl hc7 hk) (by simp [WOk]) (by simp;exact xo5 hc7)
  obtain ⟨wd',x5',u',k3,k4,k5,e2⟩:=bc_go (cf:=cf) (A:=some (.int x)) (B:=some (.int 7)) (xs:=xs) h2 (by exact o233 r4.2 hs) (by exact xo3 hl) h14 (ks:=List.range (s-1)) (wd:=wd) (x5:=x5) (u:=none) (by simp;exact fun k hk=>Nat.add_lt_of_lt_sub hk) k1 (by simp at k2 ⊢;exact xo6 r4.2 hs hc7 k2)
  simp at k2 k5
  refine ⟨s,wd',⟨by exact o232 r4.1 hs,by exact o233 r4.2 hs,k3,by exact xo7 r4.2 hs hc7 k2 k5,by intro e;exact absurd (e ▸ h2) (by decide),fun _=>⟨wd.map (·.1),fun i hi=>by obtain ⟨p,hp,rfl⟩:=List.mem_map.1 hi;exact (k1 p hp).1,k4⟩⟩,?_⟩
  refine run2 (o:=.ret _) (ρ:=[some (.int x),some (.int 7),none,none,none,none,none,none,none,none,none,none,none]) rfl rfl ?_
  refine (head _).trans ?_
  refine (zB (ex_for (br_src (by exact xo3 hl) hc) (items_r1 (by exact xo8 hc7)) e1)).trans ?_
  have e3:((s:Int)-1)=((s-1:Nat):Int):=by exact o242 r4.1 hs
  refine (zB (ex_for (xs:=[.int ((s-1:Nat):Int)]) (by rw [<-e3];simp [vE1,vE2,vE6,evsN,evsC,slot,bindK,bopS,int2K,int2K]) (items_r1 (by exact o243 r4.2 hs)) e2)).trans ?_
  exact exs_r (by rfl)
 ·have hs1:s=1:=by exact o244 r4.1 hs h2
  have hc0:c=0:=by rw [if_neg (by exact o245 h2)] at hc;exact v66 hc
  subst hc0
  refine ⟨s,[],⟨by exact o232 r4.1 hs,by exact o233 r4.2 hs,by simp [WOk],by simp,fun _=>rfl,fun h=>by exact (o246 h2 h).elim⟩,?_⟩
  refine run2 (o:=.ret _) (ρ:=[some (.int x),some (.int 7),none,none,none,none,none,none,none,none,none,none,none]) rfl rfl ?_
  refine (head _).trans ?_
  refine (zB (ρ':=[some (.int x),some (.int 7),some (.list (xs.map .int)),some (.int s),some (.list (wI [])),none,none,none,none,none,none,none,none]) (ex_for (br_src (by exact xo3 hl) hc) (items_r1 (by exact o247)) rfl)).trans ?_
  refine (zB (ρ':=[some (.int x),some (.int 7),some (.list (xs.map .int)),some (.int s),some (.list (wI [])),none,none,none,none,none,none,none,none]) (ex_for (xs:=[.int ((0:Nat):Int)]) (by subst hs1;simp [vE1,vE2,vE6,evsN,evsC,slot,bindK,bopS,int2K,int2K]) (items_r1 (by exact o247)) rfl)).trans ?_
  exact exs_r (by rfl)
noncomputable def sgO (wd:List (Nat×Int)):Nat->Int:=fun l=>(wd.map (·.2)).getD l 1
theorem sgO_ok {s:Nat} {wd:List (Nat×Int)} (h:WOk s wd):Sg (sgO wd):=by
 intro l
 unfold sgO
 by_cases hl:l < wd.length
 ·have:(wd.map (·.2)).getD l 1=wd[l].2:=by simp [List.getD,hl]
  rw [this];exact (h _ (List.getElem_mem hl)).2
 ·have:(wd.map (·.2)).getD l 1=1:=by simp [List.getD,hl]
  rw [this];simp
noncomputable def rI (sg:Nat->Int) (R:List (Nat×Bool)):List PV:=R.map fun x=>PV.int (rv id sg x)
noncomputable def drB:List PS:=[(.unpack [8,9] (.idx (.var 3) (.var 7))),(.ite (.cmp .eq (.var 5) (.var 8)) [(.append 4 (.bin .mul (.bin .add (.var 7) (.const (.int 1))) (.neg (.var 9)))),(.assign 5 (.bin .add (.var 8) (.const (.int 1))))] [(.ite (.cmp .eq (.var 5) (.bin .add (.var 8) (.const (.int 1)))) [(.append 4 (.bin .mul (.bin .add (.var 7) (.const (.int 1))) (.var 9))),(.assign 5 (.var 8))] [])])]
noncomputable def drρ (a b c:Option PV) (wd:List (Nat×Int)) (acc:List (Nat×Bool)) (p:Nat) (x6 x7 x8 x9:Option PV):Slots:=[a,b,c,some (.list (wI wd)),some (.list (rI (sgO wd) acc)),some (.int p),x6,x7,x8,x9,none,none,none,none,none,none,none]
theorem rI_t {wd:List (Nat×Int)} {acc:List (Nat×Bool)} {l:Nat} {t:Int} (hsg:sgO wd l=t):rI (sgO wd) (acc++[(l,true)])=rI (sgO wd) acc++[.int (((l:Int)+1)*-t)]:=by simp [rI,rv,hsg]
theorem rI_f {wd:List (Nat×Int)} {acc:List (Nat×Bool)} {l:Nat} {t:Int} (hsg:sgO wd l=t):rI (sgO wd) (acc++[(l,false)])=rI (sgO wd) acc++[.int (((l:Int)+1)*t)]:=by simp [rI,rv,hsg]
theorem dr_step {cf:Nat->List PV->Res PV} {a b c x6 x8 x9:Option PV} {wd:List (Nat×Int)} {acc:List (Nat×Bool)} {p l i:Nat} {t:Int} (h:wd[l]?=some (i,t)) (ht:t=1\/t=-1) (hl:l < 1000) (ha:acc.length < 1000):
  ∃ x8' x9',exs cf (drρ a b c wd acc p x6 (some (.int l)) x8 x9) drB=.ok (.next (drρ a b c wd (acc++(if p=i then [(l,true)] else if p=i+1 then [(l,false)] else [])) (stp i p) x6 (some (.int l)) x8' x9')):=by
 have g:(wI wd)[l]?=some (.tuple [.int (i:Int),.int t]):=by simp [wI,h]
 have hsg:sgO wd l=t:=by simp [sgO,List.getD,h]
 have la:(rI (sgO wd) acc).length < lim:=by rw [rI,List.length_map,lim];exact o249 ha
 have b1:big ((l:Int)+1)=false:=by unfold big;exact decide_eq_false (by exact v67 hl)
 have b2:big t=false:=by rcases ht with rfl | rfl<;>decide
 have b3:big (-t)=false:=by rcases ht with rfl | rfl<;>decide
 refine ⟨some (.int i),some (.int t),?_⟩
 refine (zB (ρ':=drρ a b c wd acc p x6 (some (.int l)) (some (.int i)) (some (.int t))) ?_).trans ?_
 ·have e0:ev cf (drρ a b c wd acc p x6 (some (.int l)) x8 x9) (.idx (.var 3) (.var 7))=.ok (.tuple [.int i,.int t]):=by
   show (if (0:Int)<=l then (match (wI wd)[(l:Int).toNat]? with | some d=>Res.ok d | none=>.stuck) else .stuck)=_
   rw [if_pos (Int.natCast_nonneg l),Int.toNat_natCast,g]
  rw [xE3,e0];rfl
 unfold stp
 refine (zB ?_).trans exs_0
 rw [ex_ite (t:=((p:Int)==(i:Int))) rfl]
 by_cases h1:p=i
 ·subst h1
  rw [if_pos (beq_self_eq_true _),if_pos rfl,if_pos rfl]
  refine (zB (ex_append (l:=rI (sgO wd) acc) rfl (ev_mul (x:=(l:Int)+1) (y:=-t) rfl rfl b1 b3) la)).trans ((zB rfl).trans ?_)
  rw [exs_0];unfold drρ;rw [rI_t hsg];rfl
 ·have h1':((p:Int)==(i:Int))=false:=beq_false_of_ne (by exact o211 h1)
  rw [h1',if_neg (by decide),if_neg h1,if_neg h1]
  refine (zB ?_).trans exs_0
  rw [ex_ite (t:=((p:Int)==(i:Int)+1)) rfl]
  by_cases h2:p=i+1
  ·have h2':((p:Int)==(i:Int)+1)=true:=by rw [h2];exact beq_self_eq_true _
   rw [h2',if_pos rfl,if_pos h2,if_pos h2]
   refine (zB (ex_append (l:=rI (sgO wd) acc) rfl (ev_mul (x:=(l:Int)+1) (y:=t) rfl rfl b1 b2) la)).trans ((zB rfl).trans ?_)
   rw [exs_0];unfold drρ;rw [rI_f hsg];rfl
  ·have h2':((p:Int)==(i:Int)+1)=false:=beq_false_of_ne (by exact o254 h2)
   rw [h2',if_neg (by decide),if_neg h2,if_neg h2,List.append_nil]
   exact exs_0
theorem wlk_len:∀ {v:List Nat} {l p:Nat},(wlk v l p).length<=v.length
 | [],_,_=>by simp [wlkN]
 | i::v,l,p=>by
  have:=wlk_len (v:=v) (l:=l+1) (p:=stp i p)
  simp only [wlkC,List.length_append,List.length_cons]
  split;simp;exact o248 this;split<;>simp<;>(first | exact o248 this | exact o53 this)
theorem dr_go1 {cf:Nat->List PV->Res PV} {a b c x6:Option PV} {wd:List (Nat×Int)} {s:Nat} (hw:WOk s wd) (hl:wd.length<=10):∀ {v pre:List (Nat×Int)} {acc:List (Nat×Bool)} {p:Nat} {x7 x8 x9:Option PV},wd=pre++v->acc.length+v.length < 1000 ->
  ∃ x7' x8' x9',forGo (fun ρ'=>exs cf ρ' drB) (.one 7) ((List.range' pre.length v.length).map fun (k:Nat)=>PV.int (k:Int)) (drρ a b c wd acc p x6 x7 x8 x9)=.ok (.next (drρ a b c wd (acc++wlk (v.map (·.1)) pre.length p) (fin (v.map (·.1)) p) x6 x7' x8' x9'))
 | [],pre,acc,p,x7,x8,x9,_,_=>⟨x7,x8,x9,by simp [forN,wlkN,finN]⟩
 | (i,t)::v,pre,acc,p,x7,x8,x9,h,hn=>by
  have hget:wd[pre.length]?=some (i,t):=by rw [h];simp
  have ht:=(hw (i,t) (by rw [h];simp)).2
  have hpl:pre.length < 1000:=by rw [h] at hl;simp at hl;exact o251 hl
  obtain ⟨y8,y9,e0⟩:=dr_step (cf:=cf) (a:=a) (b:=b) (c:=c) (x6:=x6) (x8:=x8) (x9:=x9) (acc:=acc) (p:=p) hget ht hpl (by exact o252 hn)
  obtain ⟨x7',x8',x9',e⟩:=dr_go1 (cf:=cf) (a:=a) (b:=b) (c:=c) (x6:=x6) hw hl (v:=v) (pre:=pre++[(i,t)]) (acc:=acc++(if p=i then [(pre.length,true)] else if p=i+1 then [(pre.length,false)] else [])) (p:=stp i p) (x7:=some (.int pre.length)) (x8:=y8) (x9:=y9) (by simp [h]) (by
   simp at hn ⊢;split;simp;exact o156 hn;split<;>simp<;>(first | exact o156 hn | exact o253 hn))
  refine ⟨x7',x8',x9',?_⟩
  rw [List.length_append,List.length_singleton] at e
  have e':wlk (((i,t)::v).map (·.1)) pre.length p=(if p=i then [(pre.length,true)] else if p=i+1 then [(pre.length,false)] else [])++wlk (v.map (·.1)) (pre.length+1) (stp i p):=rfl
  rw [e',<-List.append_assoc]
  refine Eq.trans ?_ e
  rw [List.length_cons,List.range'_succ,List.map_cons]
  exact zH rfl e0
noncomputable def drO:List PS:=[(.for_ (.one 7) .range1 [(.prim .len [(.var 3)])] drB)]
theorem dr_turn {cf:Nat->List PV->Res PV} {a b c x6 x7 x8 x9:Option PV} {wd:List (Nat×Int)} {s:Nat} (hw:WOk s wd) (hl:wd.length<=10) {acc:List (Nat×Bool)} {p:Nat} (ha:acc.length+wd.length < 1000):
  ∃ x7' x8' x9',exs cf (drρ a b c wd acc p x6 x7 x8 x9) drO=.ok (.next (drρ a b c wd (acc++wlk (wd.map (·.1)) 0 p) (fin (wd.map (·.1)) p) x6 x7' x8' x9')):=by
 obtain ⟨x7',x8',x9',e⟩:=dr_go1 (cf:=cf) (a:=a) (b:=b) (c:=c) (x6:=x6) (x7:=x7) (x8:=x8) (x9:=x9) hw hl (v:=wd) (pre:=[]) (acc:=acc) (p:=p) rfl ha
 refine ⟨x7',x8',x9',?_⟩
 rw [List.length_nil,<-List.range_eq_range'] at e
 refine (zB (ex_for (xs:=[.int (wd.length:Nat)]) (by first | rfl | simp [vE1,vE20,evsN,evsC,slot,bindK,prLen,p1K,lenL,drρ,wI_len]) (items_r1 (by exact o250 hl)) e)).trans exs_0
theorem dr_go2 {cf:Nat->List PV->Res PV} {a b c:Option PV} {wd:List (Nat×Int)} {s:Nat} (hw:WOk s wd) (hl:wd.length<=10):∀ {ts:List Nat} {acc:List (Nat×Bool)} {p:Nat} {x6 x7 x8 x9:Option PV},acc.length+ts.length*10 < 500 ->
  ∃ x6' x7' x8' x9' p',forGo (fun ρ'=>exs cf ρ' drO) (.one 6) (ts.map fun (k:Nat)=>PV.int (k:Int)) (drρ a b c wd acc p x6 x7 x8 x9)=.ok (.next (drρ a b c wd (acc++rnd (wd.map (·.1)) ts.length p) p' x6' x7' x8' x9'))
 | [],acc,p,x6,x7,x8,x9,_=>⟨x6,x7,x8,x9,p,by simp [forN,rnd0]⟩
 | k::ts,acc,p,x6,x7,x8,x9,hn=>by
  simp at hn
  have hwl:=wlk_len (v:=wd.map (·.1)) (l:=0) (p:=p)
  rw [List.length_map] at hwl
  obtain ⟨y7,y8,y9,e0⟩:=dr_turn (cf:=cf) (a:=a) (b:=b) (c:=c) (x6:=some (.int k)) (x7:=x7) (x8:=x8) (x9:=x9) hw hl (acc:=acc) (p:=p) (by exact v68 hl hn)
  obtain ⟨x6',x7',x8',x9',p',e⟩:=dr_go2 (cf:=cf) (a:=a) (b:=b) (c:=c) hw hl (ts:=ts) (acc:=acc++wlk (wd.map (·.1)) 0 p) (p:=fin (wd.map (·.1)) p) (x6:=some (.int k)) (x7:=y7) (x8:=y8) (x9:=y9) (by simp;exact v69 hl hn hwl)
  refine ⟨x6',x7',x8',x9',p',?_⟩
  rw [List.append_assoc] at e
  refine Eq.trans ?_ e
  rw [List.map_cons]
  exact zH rfl e0
end Mine.Internal
end
section
namespace Mine.Internal
open PySem
theorem mx_pos {a:Int}:0 < (if 1 < a then a else 1):=by split<;>first | exact Int.lt_trans (show (0:Int) < 1 by decide) (by assumption) | decide
theorem dr_comp {cf:Nat->List PV->Res PV} {a0 a1 a2 a3 a4 a5 a6 a7 a8 a9 a10:Option PV}:∀ {wd:List (Nat×Int)} {u v:Option PV},
  compGo (fun ρ'=>ev cf ρ' (.var 12)) (fun ρ'=>evAnd cf ρ' []) (.many [11,12]) (wI wd) [a0,a1,a2,a3,a4,a5,a6,a7,a8,a9,a10,u,v,none,none,none,none]=.ok (wd.map fun p=>PV.int p.2)
 | [],u,v=>rfl
 | (i,t)::wd,u,v=>by
  have:=dr_comp (cf:=cf) (a0:=a0) (a1:=a1) (a2:=a2) (a3:=a3) (a4:=a4) (a5:=a5) (a6:=a6) (a7:=a7) (a8:=a8) (a9:=a9) (a10:=a10) (wd:=wd) (u:=some (.int i)) (v:=some (.int t))
  show compGo _ _ _ (PV.tuple [.int (i:Int),.int t]::wI wd) _=_
  simp only [vE1,evAndN,slot] at this ⊢
  simp [compC,tgtM,bindK,this]
theorem dr_fin {cf:Nat->List PV->Res PV} {x:Int} {a1 a2 x6 x7 x8 x9:Option PV} {wd:List (Nat×Int)} {R:List (Nat×Bool)} {p k:Nat} {X:PV} (hk:k<=R.length) (hR:R.length < 500) (hw:wd.length<=10)
  (h13:cf 22 [.list (rot k (rI (sgO wd) R)),.list (.int 0::wd.map fun p=>PV.int p.2)]=.ok X):
  ex cf [some (.int x),a1,a2,some (.list (wI wd)),some (.list (rI (sgO wd) R)),some (.int p),x6,x7,x8,x9,some (.int k),none,none,none,none,none,none] (.ret (.call 22 false [(.bin .add (.slL (.var 4) (.var 10)) (.slH (.var 4) (.var 10))),(.bin .add (.lst [(.const (.int 0))]) (.comp (.var 12) (.many [11,12]) .seq [(.var 3)] []))]))=.ok (.ret X):=by
 have hl:(rI (sgO wd) R).length=R.length:=by simp [rI]
 have c1:=cut_lo (l:=rI (sgO wd) R) (k:=k) (by exact o255 hk hl)
 have c2:=cut_hi (l:=rI (sgO wd) R) (k:=k) (by exact o255 hk hl)
 have m1:mkL ((rI (sgO wd) R).drop k++(rI (sgO wd) R).take k)=.ok (.list (rot k (rI (sgO wd) R))):=by
  have:((rI (sgO wd) R).drop k++(rI (sgO wd) R).take k).length<=lim:=by rw [List.length_append,List.length_drop,List.length_take,hl,lim];exact o258 hR
  unfold mkL;rw [if_pos this];rfl
 have m2:mkL [PV.int 0]=.ok (.list [.int 0]):=rfl
 have m3:mkL ([PV.int 0]++wd.map fun p=>PV.int p.2)=.ok (.list (.int 0::wd.map fun p=>PV.int p.2)):=by
  have:([PV.int 0]++wd.map fun p=>PV.int p.2).length<=lim:=by rw [List.length_append,List.length_map,List.length_singleton,lim];exact o260 hw
  unfold mkL;rw [if_pos this];rfl
 have cm:ev cf [some (.int x),a1,a2,some (.list (wI wd)),some (.list (rI (sgO wd) R)),some (.int p),x6,x7,x8,x9,some (.int k),none,none,none,none,none,none] (.comp (.var 12) (.many [11,12]) .seq [(.var 3)] [])=.ok (.list (wd.map fun p=>PV.int p.2)):=by
  refine ev_comp (xs:=[.list (wI wd)]) (ds:=wI wd) (by rfl) rfl ?_ (by rw [List.length_map,lim];exact o164 hw)
  exact dr_comp
 simp only [xE11,vE19,vE6,vE16,vE17,vE4,vE1,vE2,evsN,evsC,cm,slot,List.getElem?_cons_succ,List.getElem?_cons_zero,bindK,sliceLL,sliceHL,c1,c2,bopA,addVL,m1,m2,m3,h13,Bool.not_false,Bool.true_or,if_true]
theorem rnd_len {w:List Nat}:∀ {t p:Nat},(rnd w t p).length<=t*w.length
 | 0,_=>by simp [rnd0]
 | t+1,p=>by
  have h1:=wlk_len (v:=w) (l:=0) (p:=p)
  have h2:=rnd_len (w:=w) (t:=t) (p:=fin w p)
  rw [rndS,List.length_append,Nat.add_mul];exact o256 h1 h2
theorem drawn {n:Nat} (x:Int):∃ s wd k,Braid s wd/\k<=(rnd (wd.map (·.1)) s 0).length/\callN zA (n+3) 25 [.int x,.int 7]=.ok (dI (dps (rot k (rnd (wd.map (·.1)) s 0)) (sgO wd),dts (rot k (rnd (wd.map (·.1)) s 0)) (sgO wd))):=by
 obtain ⟨s,wd,B,e15⟩:=braid (n:=n) x
 have hwl:wd.length<=10:=Nat.le_trans B.len (by decide)
 have h5:=B.h5
 have hrl:=rnd_len (w:=wd.map (·.1)) (t:=s) (p:=0)
 rw [List.length_map] at hrl
 have hrl2:(rnd (wd.map (·.1)) s 0).length<=40:=Nat.le_trans hrl (Nat.mul_le_mul (show s<=4 by exact o257 h5) hwl)
 have hsg:=sgO_ok B.ok
 have hlev:∀ {l:Nat} {b:Bool},(l,b)∈rnd (wd.map (·.1)) s 0->l < wd.length:=by
  intro l b h
  obtain ⟨t,-,h⟩:=mem_rnd.1 h
  obtain ⟨i,e,h1,-⟩:=mem_wlk.1 h
  rw [List.length_map] at h1;exact o128 e h1
 generalize hR:rnd (wd.map (·.1)) s 0=R at *
 have hM:(0:Int) < (if (1:Int) < (R.length:Int) then (R.length:Int) else 1):=mx_pos
 have hr:=fmod_range (Int.fmod x 1009) hM
 obtain ⟨k,hk⟩:∃ k:Nat,(k:Int)=Int.fmod (Int.fmod x 1009) (if (1:Int) < (R.length:Int) then (R.length:Int) else 1):=⟨(Int.fmod (Int.fmod x 1009) (if (1:Int) < (R.length:Int) then (R.length:Int) else 1)).toNat,by exact v53 hr.1⟩
 have hkl:k<=R.length:=by
  by_cases h:(1:Int) < (R.length:Int)
  ·rw [if_pos h] at hr hk;exact o263 hr.2 hk
  ·rw [if_neg h] at hr hk;exact o264 hr.2 hk
 refine ⟨s,wd,k,B,by rw [hR];exact hkl,?_⟩
 rw [hR]
 have e13:=law_numbered (n:=n+1) hsg (q:=id) (R:=rot k R) (fun a _ b _ e=>e) (by simp [rot];exact o265 hrl2) (P:=.list (rot k (rI (sgO wd) R))) (T:=.list (.int 0::wd.map fun p=>PV.int p.2)) (by
  rw [rI,rot_map];rfl) (by
  intro l hl
  obtain ⟨b,hb⟩:=mem_ordL.1 hl
  have hm:(l,b)∈R:=by
   unfold rot at hb
   rcases List.mem_append.1 hb with h | h
   ·exact List.mem_of_mem_drop h
   ·exact List.mem_of_mem_take h
  have hlt:=hlev hm
  have t1:((l:Int)+1).toNat=l+1:=by exact v51
  have t2:(0:Int)<=(l:Int)+1:=by exact o187
  have g:(PV.int 0::wd.map fun p=>PV.int p.2)[l+1]?=some (.int (sgO wd l)):=by
   simp [sgO,List.getD,hlt]
  simp only [getIdxL,id,t1,t2,if_true,g])
 have e13':callN zA (n+2) 22 [.list (rot k (rI (sgO wd) R)),.list (.int 0::wd.map fun p=>PV.int p.2)]=.ok (dI (dps (rot k R) (sgO wd),dts (rot k R) (sgO wd))):=e13
 clear e13
 rw [c2 (by rfl)]
 generalize callN zA (n+2)=cf at *
 obtain ⟨x6,x7,x8,x9,p,e⟩:=dr_go2 (cf:=cf) (a:=some (.int x)) (b:=some (.int 7)) (c:=some (.int s)) B.ok hwl (ts:=List.range s) (acc:=[]) (p:=0) (x6:=none) (x7:=none) (x8:=none) (x9:=none) (by simp;exact v70 h5)
 rw [List.length_range,List.nil_append,hR] at e
 refine run2 (o:=.ret _) (ρ:=[some (.int x),some (.int 7),none,none,none,none,none,none,none,none,none,none,none,none,none,none,none]) rfl rfl ?_
 refine (zB (ρ':=[some (.int x),some (.int 7),some (.int s),some (.list (wI wd)),none,none,none,none,none,none,none,none,none,none,none,none,none]) (by first | rfl | simp [xE3,vE1,vE19,evsN,evsC,slot,tgtM,bindK,e15])).trans ?_
 refine (zB (ρ':=[some (.int x),some (.int 7),some (.int s),some (.list (wI wd)),some (.list (rI (sgO wd) [])),none,none,none,none,none,none,none,none,none,none,none,none]) (by rfl)).trans ?_
 refine (zB (ρ':=drρ (some (.int x)) (some (.int 7)) (some (.int s)) wd [] 0 none none none none) (by rfl)).trans ?_
 refine (zB (ex_for (xs:=[.int s]) (by rfl) (items_r1 (by exact o205 h5)) e)).trans ?_
 refine (zB (ρ':=[some (.int x),some (.int 7),some (.int s),some (.list (wI wd)),some (.list (rI (sgO wd) R)),some (.int p),x6,x7,x8,x9,some (.int k),none,none,none,none,none,none]) ?_).trans ?_
 ·have hl:(rI (sgO wd) R).length=R.length:=by simp [rI]
  have h1:((1009:Int)=0)=False:=by simp
  have h2:((if (1:Int) < (R.length:Int) then (R.length:Int) else 1)=0)=False:=eq_false (Int.ne_of_gt mx_pos)
  rw [hk]
  simp only [drρ,xE1,vE6,vE20,vE1,vE2,evsN,evsC,slot,List.getElem?_cons_succ,List.getElem?_cons_zero,bindK,bopR,int2K,prLen,prMax,p1K,p2K,lenL,h1,if_false,hl,h2]
  rfl
 ·exact exs_r (dr_fin hkl (by exact o267 hrl2) hwl e13')
end Mine.Internal
end
section
namespace Mine.Internal
open PySem
noncomputable def over:Str := "over"
noncomputable def under:Str := "under"
structure Str3 (ps us:List Int) (n b e:Nat) (kd:Str):Prop where
 good:Good n ps
 len:us.length=n
 ok:∀ t∈us,t=1\/t=-1
 dr:Dr ps us
 n10:n<=10
 be:b<=e
 el:e<=ps.length
 knd:kd=over\/kd=under
 all:∀ v∈(ps.take e).drop b,if kd==over then 0 < v else v < 0
theorem clip_nat {n:Nat} {i:Nat} (h:i<=n):clip n (i:Int)=i:=by
 unfold clip;rw [if_neg (Int.not_lt.2 (Int.natCast_nonneg i)),Int.toNat_natCast,Nat.min_eq_left h]
theorem sl_LH {l:List PV} {b e:Nat} (hb:b<=l.length) (he:e<=l.length):slc (some (.int b)) (some (.int e)) (.tuple l)=.ok (.tuple ((l.take e).drop b)):=by
 show Res.ok (PV.tuple (cut l (clip l.length b) (clip l.length e)))=_
 rw [clip_nat hb,clip_nat he];rfl
theorem sl_L {l:List PV} {e:Nat} (he:e<=l.length):slc (some (.int e)) Option.none (.tuple l)=.ok (.tuple (l.drop e)):=by
 show Res.ok (PV.tuple (cut l (clip l.length e) l.length))=_
 rw [clip_nat he];unfold cut;rw [List.take_length]
theorem sl_H {l:List PV} {b:Nat} (hb:b<=l.length):slc Option.none (some (.int b)) (.tuple l)=.ok (.tuple (l.take b)):=by
 show Res.ok (PV.tuple (cut l 0 (clip l.length b)))=_
 rw [clip_nat hb];rfl
theorem isin_ints {l:List Int} {i:Int}:isin (.int i) (.list (l.map .int))=.ok (decide (i∈l)):=by
 show (if (PV.flats (l.map .int)&&true&&decide (0<=60))=true then Res.ok ((l.map PV.int).any fun y=>PV.eq y (.int i)) else .stuck)=_
 refine (if_pos (by rw [flats_int];rfl)).trans ?_
 congr 1
 rw [Bool.eq_iff_iff,List.any_eq_true,decide_eq_true_iff]
 constructor
 ·rintro ⟨d,hd,e⟩
  obtain ⟨y,hy,rfl⟩:=List.mem_map.1 hd
  rw [eqII,beq_iff_eq] at e;rw [<-e];exact hy
 ·intro h;exact ⟨.int i,List.mem_map.2 ⟨i,h,rfl⟩,by rw [eqII];exact beq_self_eq_true _⟩
theorem mkL_ok {l:List PV} (h:l.length<=lim):mkL l=.ok (.list l):=if_pos h
theorem comp_filter {elt:Slots->Res PV} {cond:Slots->Res Bool} {i:Nat} {p:PV->Bool} {f:PV->PV}:∀ {ds:List PV} {ρ:Slots},(∀ d∈ds,cond (ρ.set i (some d))=.ok (p d)/\elt (ρ.set i (some d))=.ok (f d))->compGo elt cond (.one i) ds ρ=.ok ((ds.filter p).map f)
 | [],_,_=>rfl
 | d::ds,ρ,h=>by
  have h1:=h d List.mem_cons_self
  have ih:=comp_filter (ds:=ds) (ρ:=ρ.set i (some d)) (elt:=elt) (cond:=cond) (f:=f) (p:=p) (i:=i) (fun d' hd=>by
   rw [List.set_set];exact h d' (List.mem_cons_of_mem _ hd))
  rw [compC,tgt1,bindK,h1.1,bindK,h1.2,ih,List.filter_cons]
  cases p d<;>rfl
section
variable {ps us:List Int} {n b e:Nat} {kd:Str} {k:Nat}
theorem Str3.plen (h:Str3 ps us n b e kd):ps.length<=20:=by rw [h.good.len];have:=h.n10;exact xo66 this
theorem need_drawing (h:Dr ps us):callN zA (k+5) 8 [dI (ps,us)]=.ok .none:=by
 rw [c2 (by rfl)]
 have e:=is_dr (k:=k) h
 generalize callN zA (k+4)=cf at e
 refine run2 (o:=.next [some (dI (ps,us)),none,none,none,none,none,none]) (ρ:=[some (dI (ps,us)),none,none,none,none,none,none]) rfl rfl ?_
 exact (zB (ex_skip (ev_not (b:=true) (zF (xs:=[dI (ps,us)]) rfl e)))).trans exs_0
theorem eq_str {x y:Str}:cmpop .eq (.str x) (.str y)=.ok (x==y):=rfl
theorem of_kind {v:Int} (h:if kd==over then 0 < v else v < 0):callN zA (k+1) 9 [.int v,.str kd]=.ok (.bool true):=by
 rw [c2 (by rfl)]
 refine run2 (o:=.ret _) (ρ:=[some (.int v),some (.str kd),none,none,none,none,none,none]) rfl rfl (exs_r (ex_ret ?_))
 rw [vE13,ev_cmp (x:=.str kd) (y:=.str over) rfl rfl eq_str]
 show (if (kd==over)=true then Res.ok (PV.bool (decide (v > 0))) else Res.ok (PV.bool (decide (v < 0))))=_
 cases q:kd==over with
 | true=>rw [q,if_pos rfl] at h;rw [if_pos rfl,decide_eq_true h]
 | false=>rw [q,if_neg Bool.false_ne_true] at h;rw [if_neg Bool.false_ne_true,decide_eq_true h]
theorem ex_expr {cf:Nat->List PV->Res PV} {ρ:Slots} {e:PE} (h:ev cf ρ e=.ok .none):ex cf ρ (.expr e)=.ok (.next ρ):=by rw [xE12,h];rfl
theorem need_stretch (h:Str3 ps us n b e kd):callN zA (k+6) 10 [dI (ps,us),.int b,.int e,.str kd]=.ok .none:=by
 have e8:=need_drawing (k:=k) h.dr
 have e4:∀ i:Int,callN zA (k+5) 4 [.int i]=.ok (.bool true):=fun i=>is_number i
 have e9:∀ v,v∈(ps.take e).drop b->callN zA (k+5) 9 [.int v,.str kd]=.ok (.bool true):=fun v hv=>of_kind (h.all v hv)
 have hl:=h.plen;have h1:=h.be;have h2:=h.el
 rw [c2 (by rfl)]
 generalize callN zA (k+5)=cf at *
 refine run2 (o:=.next [some (dI (ps,us)),some (.int b),some (.int e),some (.str kd),some (tI ps),none,none,none,none,none,none]) (ρ:=[some (dI (ps,us)),some (.int b),some (.int e),some (.str kd),none,none,none,none,none,none,none]) rfl rfl ?_
 refine (zB (ex_expr (zF (xs:=[dI (ps,us)]) rfl e8))).trans ?_
 refine (zB (ρ':=[some (dI (ps,us)),some (.int b),some (.int e),some (.str kd),some (tI ps),none,none,none,none,none,none]) rfl).trans ?_
 refine (zB (ex_skip (ev_or ((evOr_f (ev_not (b:=true) (zF (xs:=[.int b]) rfl (e4 _)))).trans ((evOr_f (ev_not (b:=true) (zF (xs:=[.int e]) rfl (e4 _)))).trans ((evOr_f (ev_not (b:=true) ?_)).trans evOrN)))))).trans ?_
 ·show chain4 (.int 0) (.int b) (.int e) (.int ((ps.map PV.int).length:Nat))=_
  show (if (decide ((0:Int)<=b)&&decide ((b:Int)<=e)&&decide ((e:Int)<=((ps.map PV.int).length:Nat)))=true then Res.ok (PV.bool true) else .stuck)=_
  rw [List.length_map,decide_eq_true (Int.natCast_nonneg _),decide_eq_true (by exact xo61 h1),decide_eq_true (by exact xo61 h2)];rfl
 refine (zB (ex_skip (ev_or ((evOr_f (ev_not (b:=true) rfl)).trans ((evOr_f ?_).trans evOrN))))).trans ?_
 ·refine (ev_cmp (o:=.notIn) (x:=.str kd) (y:=.tuple [.str over,.str under]) (r:=!((over==kd)||((under==kd)||false))) rfl rfl rfl).trans ?_
  rcases h.knd with q | q<;>subst q<;>rfl
 refine (zB (ex_skip (ev_not (b:=true) ?_))).trans exs_0
 have hc:ev cf [some (dI (ps,us)),some (.int b),some (.int e),some (.str kd),some (tI ps),none,none,none,none,none,none] (.comp (.call 9 false [(.var 5),(.var 3)]) (.one 5) .seq [(.slLH (.var 4) (.var 1) (.var 2))] [])=.ok (.list (((ps.map PV.int).take e).drop b |>.map fun _=>.bool true)):=by
  refine ev_comp (xs:=[.tuple (((ps.map PV.int).take e).drop b)]) (ds:=((ps.map PV.int).take e).drop b) ?_ rfl (comp_map fun d hd=>⟨rfl,?_⟩) ?_
  ·rw [evsC,show ev cf [some (dI (ps,us)),some (.int b),some (.int e),some (.str kd),some (tI ps),none,none,none,none,none,none] (.slLH (.var 4) (.var 1) (.var 2))=.ok (.tuple (((ps.map PV.int).take e).drop b)) from sl_LH (l:=ps.map PV.int) (b:=b) (e:=e) (by rw [List.length_map];exact xo71 h1 h2) (by rw [List.length_map];exact xo67 h2)];rfl
  ·rw [<-List.map_take,<-List.map_drop] at hd
   obtain ⟨v,hv,rfl⟩:=List.mem_map.1 hd
   exact zF (xs:=[.int v,.str kd]) rfl (e9 v hv)
  ·rw [List.length_map,List.length_drop,List.length_take,List.length_map];unfold lim;exact xo72 hl
 rw [vE20,evsC,hc]
 show allB _=_
 unfold allB
 rw [bools_t]
 exact congrArg (fun b=>Res.ok (PV.bool b)) (by rw [List.all_map];exact List.all_eq_true.2 fun _ _=>rfl)
theorem rest_of (h:Str3 ps us n b e kd):callN zA (k+1) 11 [dI (ps,us),.int b,.int e]=.ok (.list ((ps.drop e++0::ps.take b).map .int)):=by
 have hl:=h.plen;have h1:=h.be;have h2:=h.el
 rw [c2 (by rfl)]
 generalize callN zA k=cf
 refine run2 (o:=.ret _) (ρ:=[some (dI (ps,us)),some (.int b),some (.int e),none,none,none,none,none,none]) rfl rfl (exs_r (ex_ret ?_))
 have g1:ev cf [some (dI (ps,us)),some (.int b),some (.int e),none,none,none,none,none,none] (.prim .listOf [(.slL (.idx (.var 0) (.const (.int 0))) (.var 2))])=.ok (.list ((ps.map PV.int).drop e)):=by
  rw [vE20,evsC,show ev cf [some (dI (ps,us)),some (.int b),some (.int e),none,none,none,none,none,none] (.slL (.idx (.var 0) (.const (.int 0))) (.var 2))=.ok (.tuple ((ps.map PV.int).drop e)) from sl_L (l:=ps.map PV.int) (e:=e) (by rw [List.length_map];exact xo67 h2)];rfl
 have g2:ev cf [some (dI (ps,us)),some (.int b),some (.int e),none,none,none,none,none,none] (.prim .listOf [(.slH (.idx (.var 0) (.const (.int 0))) (.var 1))])=.ok (.list ((ps.map PV.int).take b)):=by
  rw [vE20,evsC,show ev cf [some (dI (ps,us)),some (.int b),some (.int e),none,none,none,none,none,none] (.slH (.idx (.var 0) (.const (.int 0))) (.var 1))=.ok (.tuple ((ps.map PV.int).take b)) from sl_H (l:=ps.map PV.int) (b:=b) (by rw [List.length_map];exact xo71 h1 h2)];rfl
 have m1:mkL ((ps.map PV.int).drop e++[PV.int 0])=.ok (.list ((ps.map PV.int).drop e++[PV.int 0])):=mkL_ok (by rw [List.length_append,List.length_drop,List.length_map,List.length_singleton];unfold lim;exact xo73 hl)
 refine ev_bin (x:=.list ((ps.map PV.int).drop e++[PV.int 0])) (ev_bin (x:=.list ((ps.map PV.int).drop e)) (y:=.list [PV.int 0]) g1 rfl m1) g2 ?_
 show mkL ((ps.map PV.int).drop e++[.int 0]++(ps.map PV.int).take b)=_
 rw [<-List.map_drop,<-List.map_take,show [PV.int 0]=[(0:Int)].map PV.int from rfl,<-List.map_append,<-List.map_append,List.append_assoc]
 refine (mkL_ok ?_).trans ?_
 ·rw [List.length_map,List.length_append,List.length_append,List.length_drop,List.length_take];unfold lim;simp;exact xo74 hl
 ·rfl
theorem filt_int {p:Int->Bool}:∀ {l:List Int},((l.map PV.int).filter fun d=>match d with | .int v=>p v | _=>false)=(l.filter p).map PV.int
 | []=>rfl
 | v::l=>by
  rw [List.map_cons,List.filter_cons,List.filter_cons,filt_int]
  show (if p v=true then _ else _)=_
  cases p v<;>rfl
noncomputable def arcV (L us:List Int) (kd:Str):PV:=.obj (L.map .int) (dT us) kd ((us.length:Int)+1) (L.length:Int)
theorem lft_len (h:Str3 ps us n b e kd):(lftL ps b e).length<=21:=by
 have hl:=h.plen;have h1:=h.be
 unfold lftL
 refine Nat.le_trans (List.length_filter_le _ _) ?_
 rw [List.length_append,List.length_cons,List.length_drop,List.length_take];exact xo68 hl h1
theorem gon_comp {cf:Nat->List PV->Res PV} {ρ:Slots} {i:Nat} {a:PE} (h:Str3 ps us n b e kd) (ha:ev cf ρ a=.ok (.tuple (((ps.map PV.int).take e).drop b))) (hs:∀ d,slot ((ρ.set i none).set i (some d)) i=.ok d):ev cf ρ (.comp (.prim .abs [(.var i)]) (.one i) .seq [a] [])=.ok (.list ((gonL ps b e).map .int)):=by
 have hl:=h.plen
 have e1:((ps.map PV.int).take e).drop b=((ps.take e).drop b).map PV.int:=by rw [List.map_drop,List.map_take]
 rw [e1] at ha
 refine ev_comp (xs:=[.tuple (((ps.take e).drop b).map PV.int)]) (ds:=((ps.take e).drop b).map PV.int) (ys:=(gonL ps b e).map .int) (by rw [evsC,ha];rfl) rfl ?_ ?_
 ·have:=comp_map (elt:=fun ρ'=>ev cf ρ' (.prim .abs [(.var i)])) (cond:=fun ρ'=>evAnd cf ρ' []) (i:=i) (f:=fun d=>match d with | .int v=>.int (absI v) | d=>d) (ds:=((ps.take e).drop b).map PV.int) (ρ:=clr (.one i) ρ) (fun d hd=>⟨rfl,by
   obtain ⟨v,_,rfl⟩:=List.mem_map.1 hd
   rw [clr1,vE20,evsC,vE1,hs];rfl⟩)
  rw [this,List.map_map]
  unfold gonL;rw [List.map_map];rfl
 ·rw [List.length_map];unfold gonL;rw [List.length_map,List.length_drop,List.length_take];unfold lim;exact xo72 hl
theorem lft_comp {cf:Nat->List PV->Res PV} {ρ:Slots} {i j:Nat} {a:PE} (h:Str3 ps us n b e kd) (ha:ev cf ρ a=.ok (.list ((ps.drop e++0::ps.take b).map .int))) (hs:∀ d,slot ((ρ.set i none).set i (some d)) i=.ok d) (hj:∀ d,slot ((ρ.set i none).set i (some d)) j=.ok (.list ((gonL ps b e).map .int))):
  ev cf ρ (.comp (.var i) (.one i) .seq [a] [(.cmp .notIn (.prim .abs [(.var i)]) (.var j))])=.ok (.list ((lftL ps b e).map .int)):=by
 have hl:=lft_len h
 refine ev_comp (xs:=[.list ((ps.drop e++0::ps.take b).map .int)]) (ds:=(ps.drop e++0::ps.take b).map .int) (ys:=(lftL ps b e).map .int) (by rw [evsC,ha];rfl) rfl ?_ (by rw [List.length_map];unfold lim;exact xo69 hl)
 have:=comp_filter (elt:=fun ρ'=>ev cf ρ' (.var i)) (cond:=fun ρ'=>evAnd cf ρ' [(.cmp .notIn (.prim .abs [(.var i)]) (.var j))]) (i:=i) (p:=fun d=>match d with | .int v=>!decide (absI v∈gonL ps b e) | _=>false) (f:=id) (ds:=(ps.drop e++0::ps.take b).map .int) (ρ:=clr (.one i) ρ) (fun d hd=>by
  obtain ⟨v,_,rfl⟩:=List.mem_map.1 hd
  rw [clr1]
  refine ⟨?_,(vE1.trans (hs _))⟩
  have ea:ev cf ((ρ.set i none).set i (some (.int v))) (.prim .abs [(.var i)])=.ok (.int (absI v)):=by rw [vE20,evsC,vE1,hs];rfl
  refine (evAnd_b (b:=!decide (absI v∈gonL ps b e)) (ev_cmp (o:=.notIn) (x:=.int (absI v)) (y:=.list ((gonL ps b e).map .int)) ea (vE1.trans (hj _)) (by rw [copNi,isin_ints];rfl))).trans ?_
  rw [evAndN]
  show (if (!decide (absI v∈gonL ps b e))=true then Res.ok true else Res.ok false)=Res.ok (!decide (absI v∈gonL ps b e))
  cases decide (absI v∈gonL ps b e)<;>rfl)
 rw [this,filt_int,List.map_id];rfl
theorem imms_ints:∀ l:List Int,PV.imms (l.map .int)=true
 | []=>rfl
 | i::l=>imms_ints l
theorem imms_zip:∀ (us:List Int) (j:Nat),PV.imms (((us.zipIdx j).map fun p=>(Key.int ((p.2:Int)+1),PV.int p.1)).map (·.2))=true
 | [],_=>rfl
 | _::us,j=>imms_zip us (j+1)
theorem imms_dT {us:List Int}:PV.imms ((dT us).map (·.2))=true:=imms_zip us 0
theorem ex_retMk {cf:Nat->List PV->Res PV} {ρ:Slots} {i:Nat} {b c d:PE} {x y z u r:PV} (h0:slot ρ i=.ok x) (h1:ev cf ρ b=.ok y) (h2:ev cf ρ c=.ok z) (h3:ev cf ρ d=.ok u) (h:mk1 x y z u=.ok r):ex cf ρ (.retMk i b c d)=.ok (.ret r):=by
 rw [xE15,h0,bindK,h1,bindK,h2,bindK,h3,bindK,h];rfl
theorem lifted (h:Str3 ps us n b e kd):callN zA (k+2) 12 [dI (ps,us),.int b,.int e,.str kd]=.ok (arcV (lftL ps b e) us kd):=by
 have hl:=h.plen;have h1:=h.be;have h2:=h.el;have h3:=h.n10;have h4:=h.len
 have e11:=rest_of (k:=k) h
 have e5:=turns_of (n:=k) (p:=(ps,us)) (by show us.length < 1000;exact xo70 h3 h4)
 rw [c2 (by rfl)]
 generalize callN zA (k+1)=cf at *
 refine run2 (o:=.ret _) (ρ:=[some (dI (ps,us)),some (.int b),some (.int e),some (.str kd),none,none,none,none,none,none,none,none]) rfl rfl ?_
 refine (zB (ρ':=[some (dI (ps,us)),some (.int b),some (.int e),some (.str kd),some (.list ((gonL ps b e).map .int)),none,none,none,none,none,none,none]) (zE (gon_comp h ?_ fun d=>rfl))).trans ?_
 ·exact sl_LH (l:=ps.map PV.int) (b:=b) (e:=e) (by rw [List.length_map];exact xo71 h1 h2) (by rw [List.length_map];exact xo67 h2)
 refine (zB (ρ':=[some (dI (ps,us)),some (.int b),some (.int e),some (.str kd),some (.list ((gonL ps b e).map .int)),some (.list ((lftL ps b e).map .int)),none,none,none,none,none,none]) (zE (lft_comp h (zF (xs:=[dI (ps,us),.int b,.int e]) rfl e11) (fun d=>rfl) fun d=>rfl))).trans ?_
 refine exs_r (ex_retMk (x:=.list ((lftL ps b e).map .int)) (y:=.dict (dT us)) (z:=.str kd) (u:=.int ((us.length:Int)+1)) rfl (zF (xs:=[dI (ps,us)]) rfl e5) rfl ?_ ?_)
 ·refine ev_bin (x:=.int (us.length:Nat)) (y:=.int 1) ?_ rfl rfl
  show Res.ok (PV.int ((us.map PV.int).length:Nat))=_
  rw [List.length_map]
 ·show (if (dfits (dT us) (.int 0)&&PV.imms ((lftL ps b e).map .int)&&PV.imms ((dT us).map (·.2)))=true then Res.ok (PV.obj ((lftL ps b e).map .int) (dT us) kd ((us.length:Int)+1) (((lftL ps b e).map PV.int).length:Nat)) else .stuck)=_
  rw [dT_fits,imms_ints,imms_dT,if_pos (show (true&&true&&true)=true from rfl),List.length_map]
end
end Mine.Internal
end
section
namespace Mine.Internal
open PySem
noncomputable def dN (o:List Int):List (Key×PV):=o.zipIdx.map fun p=>(Key.int p.1,PV.int ((p.2:Int)+1))
theorem dN_fits {o:List Int} {i:Int}:dfits (dN o) (.int i)=true:=by simp [dfits,dN,sameII]
theorem dN_len {o:List Int}:(dN o).length=o.length:=by unfold dN;rw [List.length_map,List.length_zipIdx]
theorem dN_app (o:List Int) (a:Int):dN (o++[a])=dN o++[(.int a,.int ((o.length:Int)+1))]:=by
 simp [dN,List.zipIdx_append]
theorem dN_keys {o:List Int}:(dN o).map (fun p=>p.1.pv)=o.map .int:=by
 unfold dN;rw [List.map_map]
 have:∀ (o:List Int) (k:Nat),(o.zipIdx k).map ((fun (p:Key×PV)=>p.1.pv) ∘ fun p=>(Key.int p.1,PV.int ((p.2:Int)+1)))=o.map .int:=by
  intro o;induction o with
  | nil=>intro k;rfl
  | cons a o ih=>intro k;rw [List.zipIdx_cons,List.map_cons,ih];rfl
 exact this o 0
theorem dN_has {o:List Int} {a:Int}:dhas (dN o) (.int a)=decide (a∈o):=by
 rw [Bool.eq_iff_iff]
 unfold dhas dN
 rw [List.any_eq_true,decide_eq_true_iff]
 constructor
 ·rintro ⟨p,hp,e⟩
  obtain ⟨y,hy,rfl⟩:=List.mem_map.1 hp
  rw [<-Key.int.inj (of_decide_eq_true e)];exact List.fst_mem_of_mem_zipIdx hy
 ·intro h
  obtain ⟨j,hj,e⟩:=List.getElem_of_mem h
  refine ⟨(.int a,.int ((j:Int)+1)),List.mem_map.2 ⟨(a,j),?_,rfl⟩,decide_eq_true rfl⟩
  rw [List.mk_mem_zipIdx_iff_getElem?,List.getElem?_eq_getElem hj,e]
theorem dN_put {o:List Int} {a:Int} (hn:a∉o):dput (dN o) (.int a) (.int ((o.length:Int)+1))=dN (o++[a]):=by
 unfold dput;rw [dN_has,dN_app,decide_eq_false hn,if_neg Bool.false_ne_true]
theorem dN_go {a:Int}:∀ {o:List Int} {j:Nat},a∈o->((o.zipIdx j).map fun p=>(Key.int p.1,PV.int ((p.2:Int)+1))).find? (fun p=>p.1=Key.int a)=some (Key.int a,PV.int ((j:Int)+(o.idxOf a:Int)+1))
 | [],_,h=>absurd h List.not_mem_nil
 | c::o,j,h=>by
  rw [List.zipIdx_cons,List.map_cons,List.find?_cons]
  by_cases e:c=a
  ·subst e;simp
  ·have hne:decide (Key.int c=Key.int a)=false:=decide_eq_false fun q=>e (Key.int.inj q)
   simp only [hne]
   rw [dN_go ((List.mem_cons.1 h).resolve_left fun q=>e q.symm),List.idxOf_cons,beq_false_of_ne e]
   simp;exact xp149
theorem dN_get {o:List Int} {a:Int} (h:a∈o):dget (dN o) (.int a)=some (.int ((o.idxOf a:Int)+1)):=by
 have:=dN_go (j:=0) h
 simp only [Int.natCast_zero,Int.zero_add] at this
 unfold dget dN;rw [this];rfl
noncomputable def nb1:List PS:=[(.ite (.cmp .notIn (.prim .abs [(.var 3)]) (.var 2)) [(.setItem 2 (.prim .abs [(.var 3)]) (.bin .add (.prim .len [(.var 2)]) (.const (.int 1))))] [])]
noncomputable def nb2:List PS:=[(.append 4 (.ite (.cmp .gt (.var 3) (.const (.int 0))) (.idx (.var 2) (.prim .abs [(.var 3)])) (.bin .sub (.const (.int 0)) (.idx (.var 2) (.prim .abs [(.var 3)])))))]
noncomputable def nbρ (P T:PV) (o:List Int) (u v:Option PV):Slots:=[some P,some T,some (.dict (dN o)),u,v,none,none,none,none,none,none]
section
variable {cf:Nat->List PV->Res PV} {P T:PV}
theorem nb_go1:∀ {ns o:List Int} {u:Option PV},o.length+ns.length < 1000->∃ u',forGo (fun ρ'=>exs cf ρ' nb1) (.one 3) (ns.map .int) (nbρ P T o u none)=.ok (.next (nbρ P T (ns.foldl ordS o) u' none))
 | [],o,u,_=>⟨u,rfl⟩
 | v::ns,o,u,h=>by
  rw [List.length_cons] at h
  have hs:(ordS o v).length+ns.length < 1000:=by unfold ordS;split;exact xp148 h;rw [List.length_append,List.length_singleton];exact xp147 h
  obtain ⟨u',e⟩:=nb_go1 (ns:=ns) (o:=ordS o v) (u:=some (.int v)) hs
  refine ⟨u',?_⟩
  rw [List.map_cons,List.foldl_cons]
  refine (zH (ρ1:=nbρ P T o (some (.int v)) none) (ρ2:=nbρ P T (ordS o v) (some (.int v)) none) rfl ?_).trans e
  have hc:ev cf (nbρ P T o (some (.int v)) none) (.cmp .notIn (.prim .abs [(.var 3)]) (.var 2))=.ok (.bool (!decide (absI v∈o))):=by
   show (((isin (.int (absI v)) (.dict (dN o))).bind _).bind _)=_
   rw [isin_int dN_fits,dN_has];rfl
  by_cases hm:absI v∈o
  ·rw [decide_eq_true hm] at hc
   rw [show ordS o v=o from if_pos hm]
   exact (zB (ex_skip hc)).trans exs_0
  ·rw [decide_eq_false hm] at hc
   rw [show ordS o v=o++[absI v] from if_neg hm]
   refine (zB ?_).trans exs_0
   rw [ex_ite hc]
   refine (zB (ex_setItem (l:=dN o) (kk:=.int (absI v)) (d:=.int ((o.length:Int)+1)) rfl ?_ rfl rfl dN_fits (by rw [dN_len];unfold lim;exact xp150 h))).trans ?_
   ·refine ev_bin (x:=.int (o.length:Nat)) (y:=.int 1) ?_ rfl rfl
    show (if dfits (dN o) (.int 0)=true then Res.ok (PV.int ((dN o).length:Nat)) else .stuck)=_
    rw [if_pos dN_fits,dN_len]
   ·rw [exs_0,dN_put hm];rfl
theorem nb_go2 {o:List Int}:∀ {ns a:List Int} {u:Option PV},a.length+ns.length < 1000->(∀ v∈ns,absI v∈o)->∃ u',forGo (fun ρ'=>exs cf ρ' nb2) (.one 3) (ns.map .int) (nbρ P T o u (some (.list (a.map .int))))=.ok (.next (nbρ P T o u' (some (.list ((a++ns.map (rnm o)).map .int)))))
 | [],a,u,_,_=>⟨u,by rw [List.map_nil,List.map_nil,List.append_nil];rfl⟩
 | v::ns,a,u,h,hm=>by
  rw [List.length_cons] at h
  obtain ⟨u',e⟩:=nb_go2 (o:=o) (ns:=ns) (a:=a++[rnm o v]) (u:=some (.int v)) (by rw [List.length_append,List.length_singleton];exact xp147 h) fun w hw=>hm w (List.mem_cons_of_mem _ hw)
  refine ⟨u',?_⟩
  rw [List.append_assoc] at e
  refine (zH (ρ1:=nbρ P T o (some (.int v)) (some (.list (a.map .int)))) (ρ2:=nbρ P T o (some (.int v)) (some (.list ((a++[rnm o v]).map .int)))) rfl ?_).trans e
  have hg:ev cf (nbρ P T o (some (.int v)) (some (.list (a.map .int)))) (.idx (.var 2) (.prim .abs [(.var 3)]))=.ok (.int ((o.idxOf (absI v):Int)+1)):=by
   show (if dfits (dN o) (.int (absI v))=true then (match dget (dN o) (.int (absI v)) with | some d=>Res.ok d | none=>.stuck) else .stuck)=_
   rw [if_pos dN_fits,dN_get (hm v List.mem_cons_self)]
  refine (zB (ex_append (l:=a.map .int) (d:=.int (rnm o v)) rfl ?_ (by rw [List.length_map];unfold lim;exact xp150 h))).trans ?_
  ·show (if decide (v > 0)=true then _ else _)=_
   unfold rnm
   by_cases q:0 < v
   ·rw [if_pos (decide_eq_true q),if_pos q];exact hg
   ·rw [if_neg (by rw [decide_eq_false q];exact Bool.false_ne_true),if_neg q]
    refine ev_bin (x:=.int 0) rfl hg ?_
    show Res.ok (PV.int (0-((o.idxOf (absI v):Int)+1)))=_
    rw [Int.zero_sub]
  ·rw [exs_0,List.map_append];rfl
end
theorem numbered {n:Nat} {ns us:List Int} (hl:ns.length < 1000) (h0:∀ v∈ns,v≠0) (hu:∀ v∈ns,absI v<=us.length):
  callN zA (n+1) 3 [.list (ns.map .int),.dict (dT us)]=.ok (dI (ns.map (rnm (ns.foldl ordS [])),rnT us (ns.foldl ordS []))):=by
 rw [c2 (by rfl)]
 generalize callN zA n=cf
 obtain ⟨u1,e1⟩:=nb_go1 (cf:=cf) (P:=.list (ns.map .int)) (T:=.dict (dT us)) (ns:=ns) (o:=[]) (u:=none) (by simpa using hl)
 have hm:∀ a,a∈ns.foldl ordS []↔∃ v∈ns,absI v=a:=fun a=>by rw [mem_ordS];exact ⟨fun h=>h.resolve_left List.not_mem_nil,.inr⟩
 have hol:(ns.foldl ordS []).length<=ns.length:=by
  have:=nodup_le (nd_ordS (l:=ns) List.nodup_nil) (m:=ns.map absI) fun a ha=>List.mem_map.2 ((hm a).1 ha)
  rwa [List.length_map] at this
 generalize ns.foldl ordS []=o at *
 obtain ⟨u2,e2⟩:=nb_go2 (cf:=cf) (P:=.list (ns.map .int)) (T:=.dict (dT us)) (o:=o) (ns:=ns) (a:=[]) (u:=u1) (by simpa using hl) fun v hv=>(hm _).2 ⟨v,hv,rfl⟩
 refine run2 (o:=.ret _) (ρ:=[some (.list (ns.map .int)),some (.dict (dT us)),none,none,none,none,none,none,none,none,none]) rfl rfl ?_
 refine (zB (ρ':=nbρ (.list (ns.map .int)) (.dict (dT us)) [] none none) rfl).trans ?_
 refine (zB (ex_for (xs:=[.list (ns.map .int)]) (ds:=ns.map .int) rfl rfl e1)).trans ?_
 refine (zB (ρ':=nbρ (.list (ns.map .int)) (.dict (dT us)) o u1 (some (.list (([]:List Int).map .int)))) rfl).trans ?_
 refine (zB (ex_for (xs:=[.list (ns.map .int)]) (ds:=ns.map .int) rfl rfl e2)).trans ?_
 rw [List.nil_append]
 have cm:ev cf (nbρ (.list (ns.map .int)) (.dict (dT us)) o u2 (some (.list ((ns.map (rnm o)).map .int)))) (.comp (.idx (.var 1) (.var 5)) (.one 5) .seq [(.var 2)] [])=.ok (.list ((rnT us o).map .int)):=by
  refine ev_comp (xs:=[.dict (dN o)]) (ds:=o.map .int) rfl ?_ ?_ (by unfold rnT;rw [List.length_map,List.length_map];unfold lim;exact xp153 hl hol)
  ·show (if dfits (dN o) (.int 0)=true then Res.ok ((dN o).map fun p=>p.1.pv) else .stuck)=_
   rw [if_pos dN_fits,dN_keys]
  ·rw [show (rnT us o).map PV.int=o.map (PV.int ∘ fun a=>us.getD (a-1).toNat 0) from List.map_map]
   refine comp_map2 (elt:=fun ρ'=>ev cf ρ' (.idx (.var 1) (.var 5))) (cond:=fun ρ'=>evAnd cf ρ' []) (i:=5) (a:=PV.int) (b:=PV.int ∘ fun a=>us.getD (a-1).toNat 0) fun a ha=>⟨rfl,?_⟩
   obtain ⟨v,hv,rfl⟩:=(hm a).1 ha
   have h1:=hu v hv;have h2:=absI_pos (h0 v hv)
   obtain ⟨j,hj⟩:∃ j:Nat,absI v=(j:Int)+1:=⟨(absI v-1).toNat,(tn4 h2).symm⟩
   have hj2:us[j]?=some us[j]:=List.getElem?_eq_getElem (by exact xp139 h1 hj)
   show (if dfits (dT us) (.int (absI v))=true then (match dget (dT us) (.int (absI v)) with | some d=>Res.ok d | none=>.stuck) else .stuck)=_
   rw [if_pos dT_fits,hj,dT_get hj2]
   show _=Res.ok (PV.int (us.getD ((j:Int)+1-1).toNat 0))
   rw [show ((j:Int)+1-1).toNat=j from tn1,List.getD_eq_getElem?_getD,hj2];rfl
 refine exs_r (ex_ret ?_)
 rw [vE3,evsC,evsC,vE20,evsC,show ev cf (nbρ (.list (ns.map .int)) (.dict (dT us)) o u2 (some (.list ((ns.map (rnm o)).map .int)))) (.var 4)=.ok (.list ((ns.map (rnm o)).map .int)) from rfl,vE20,evsC,cm];rfl
section
variable {L us:List Int} {kd:Str} {n:Nat}
theorem arc_face (o:RU L us) (hm:L.length<=1000):callN zA (n+3) 30 [arcV L us kd]=.ok (.dict (dF (orR L (qU us) (L.length,true)))):=by
 have e:=face_row o hm (n:=n) (x:=(L.length,true)) (mem_rsd.2 (Nat.lt_succ_self _))
 rw [c2 (by rfl)]
 generalize callN zA (n+2)=cf at *
 refine run2 (o:=.ret _) (ρ:=[some (arcV L us kd),none,none,none,none,none,none]) rfl rfl (exs_r (ex_ret (zF (xs:=[.list (L.map .int),.dict (dT us),sI (L.length,true)]) ?_ e)))
 rw [show sI (L.length,true)=.tuple [.int ((L.map PV.int).length:Nat),.int 1] by rw [List.length_map];rfl]
 rfl
theorem arc_leads (o:RU L us) (hm:L.length<=1000) (hr:Reach (rnx L (qU us)) (L.length,true) (0,false)):callN zA (n+4) 31 [arcV L us kd]=.ok (.bool true):=by
 have e:=arc_face o hm (n:=n) (kd:=kd)
 have hx:(L.length,true)∈rsd L:=mem_rsd.2 (Nat.lt_succ_self _)
 rw [c2 (by rfl)]
 generalize callN zA (n+3)=cf at *
 refine run2 (o:=.ret _) (ρ:=[some (arcV L us kd),none,none,none,none,none,none]) rfl rfl (exs_r (ex_ret ?_))
 refine (ev_cmp (o:=.isIn) (x:=sI (0,false)) rfl (zF (xs:=[arcV L us kd]) rfl e) isin_dF).trans ?_
 rw [decide_eq_true (((orR_is o.row hm hx).2.2.2 _).2 hr)]
theorem arc_drawing {A B:List Int} (hl:(B++0::A).length<=900) (h0:∀ v∈A++B,v≠0/\absI v<=us.length):callN zA (n+2) 32 [arcV (B++0::A) us kd]=.ok (dI ((A++B).map (rnm ((A++B).foldl ordS [])),rnT us ((A++B).foldl ordS []))):=by
 rw [List.length_append,List.length_cons] at hl
 have e:=numbered (n:=n) (ns:=A++B) (us:=us) (by rw [List.length_append];exact xp151 hl) (fun v hv=>(h0 v hv).1) (fun v hv=>(h0 v hv).2)
 rw [c2 (by rfl)]
 generalize callN zA (n+1)=cf at *
 obtain ⟨V,hV⟩:∃ V,arcV (B++0::A) us kd=V:=⟨_,rfl⟩
 have hix:((B++0::A).idxOf? 0)=some B.length:=by
  rw [idxOf?_mem (List.mem_append_right _ List.mem_cons_self)]
  congr 1
  rw [List.idxOf_append,if_neg fun q=>(h0 0 (List.mem_append_right _ q)).1 rfl,List.idxOf_cons_self,Nat.zero_add]
 refine run2 (o:=.ret _) (ρ:=[some (arcV (B++0::A) us kd),none,none,none,none,none,none,none]) rfl rfl ?_
 refine (zB (ρ':=[some (arcV (B++0::A) us kd),some (.int B.length),none,none,none,none,none,none]) (zE ?_)).trans (exs_r (ex_ret (zF (xs:=[.list ((A++B).map .int),.dict (dT us)]) ?_ e)))
 ·show indexIn ((B++0::A).map .int) (.int 0)=_
  unfold indexIn;rw [ints_map];simp only [hix]
 ·have e1:ev cf [some (arcV (B++0::A) us kd),some (.int B.length),none,none,none,none,none,none] (.slL (.attr (.var 0) 0) (.bin .add (.var 1) (.const (.int 1))))=.ok (.list (A.map .int)):=by
   show slc (some (.int ((B.length:Int)+1))) Option.none (.list ((B++0::A).map .int))=_
   rw [sliceLL,List.length_map,List.length_append,List.length_cons,show (B.length:Int)+1=((B.length+1:Nat):Int) from rfl,clip_nat (by exact xp155)]
   unfold cut
   rw [List.take_of_length_le (by rw [List.length_map,List.length_append,List.length_cons];exact xp156),<-List.map_drop,List.drop_append,List.drop_eq_nil_of_le (by exact xp16),List.nil_append,show B.length+1-B.length=1 by exact xp157];rfl
  have e2:ev cf [some (arcV (B++0::A) us kd),some (.int B.length),none,none,none,none,none,none] (.slH (.attr (.var 0) 0) (.var 1))=.ok (.list (B.map .int)):=by
   show slc Option.none (some (.int (B.length:Int))) (.list ((B++0::A).map .int))=_
   rw [sliceHL,List.length_map,List.length_append,List.length_cons,clip_nat (by exact xp158)]
   unfold cut
   rw [<-List.map_take,List.take_left];rfl
  have e3:ev cf [some (arcV (B++0::A) us kd),some (.int B.length),none,none,none,none,none,none] (.bin .add (.slL (.attr (.var 0) 0) (.bin .add (.var 1) (.const (.int 1)))) (.slH (.attr (.var 0) 0) (.var 1)))=.ok (.list ((A++B).map .int)):=by
   refine ev_bin e1 e2 ?_
   rw [List.map_append]
   exact mkL_ok (by rw [List.length_append,List.length_map,List.length_map];unfold lim;exact xp159 hl)
  rw [evsC,e3];rfl
end
section
variable {ps us:List Int} {n b e:Nat} {kd:Str} {k:Nat}
theorem gone_along (h:Str3 ps us n b e kd):callN zA (k+7) 14 [dI (ps,us),.int b,.int e,.str kd,.tuple []]=.ok (arcV (lftL ps b e) us kd):=by
 have e10:=need_stretch (k:=k) h
 have e12:callN zA (k+6) 12 [dI (ps,us),.int b,.int e,.str kd]=_:=lifted (k:=k+4) h
 rw [c2 (by rfl)]
 generalize callN zA (k+6)=cf at *
 refine run2 (o:=.ret _) (ρ:=[some (dI (ps,us)),some (.int b),some (.int e),some (.str kd),some (.tuple []),none,none,none,none,none,none,none,none]) rfl rfl ?_
 refine (zB (ex_expr (zF (xs:=[dI (ps,us),.int b,.int e,.str kd]) rfl e10))).trans ?_
 refine (zB (ρ':=[some (dI (ps,us)),some (.int b),some (.int e),some (.str kd),some (.tuple []),some (arcV (lftL ps b e) us kd),none,none,none,none,none,none,none]) (zE (zF (xs:=[dI (ps,us),.int b,.int e,.str kd]) rfl e12))).trans ?_
 exact (zB (ex_skip (ev_not (b:=true) rfl))).trans ((zB (ex_for (xs:=[.tuple []]) (ds:=[]) rfl rfl rfl)).trans (exs_r rfl))
theorem lay {A B:List Int} (h:Str3 ps us n b e kd) (hY:lftL ps b e=B++0::A) (o:RU (B++0::A) us) (hr:Reach (rnx (B++0::A) (qU us)) ((B++0::A).length,true) (0,false)) (h0:∀ v∈A++B,v≠0/\absI v<=us.length):
  callN zA (k+9) 16 [dI (ps,us),.int b,.int e,.str kd,.tuple []]=.ok (dI ((A++B).map (rnm ((A++B).foldl ordS [])),rnT us ((A++B).foldl ordS []))):=by
 have e14:=gone_along (k:=k) h
 have hl:=lft_len h
 rw [hY] at e14 hl
 have e31:callN zA (k+7) 31 [arcV (B++0::A) us kd]=_:=arc_leads o (by exact xp152 hl) hr (n:=k+3)
 have e32:callN zA (k+8) 32 [arcV (B++0::A) us kd]=_:=arc_drawing (by exact xp154 hl) h0 (n:=k+6)
 have e15:callN zA (k+8) 15 [dI (ps,us),.int b,.int e,.str kd,.tuple []]=.ok (arcV (B++0::A) us kd):=by
  rw [c2 (by rfl)]
  generalize callN zA (k+7)=cf at *
  refine run2 (o:=.ret _) (ρ:=[some (dI (ps,us)),some (.int b),some (.int e),some (.str kd),some (.tuple []),none,none,none,none,none,none,none]) rfl rfl ?_
  refine (zB (ρ':=[some (dI (ps,us)),some (.int b),some (.int e),some (.str kd),some (.tuple []),some (arcV (B++0::A) us kd),none,none,none,none,none,none]) (zE (zF (xs:=[dI (ps,us),.int b,.int e,.str kd,.tuple []]) rfl e14))).trans ?_
  exact (zB (ex_skip (ev_not (b:=true) (zF (xs:=[arcV (B++0::A) us kd]) rfl e31)))).trans (exs_r rfl)
 rw [c2 (by rfl)]
 generalize callN zA (k+8)=cf at *
 refine run2 (o:=.ret _) (ρ:=[some (dI (ps,us)),some (.int b),some (.int e),some (.str kd),some (.tuple []),none,none,none,none,none,none]) rfl rfl (exs_r (ex_ret (zF (xs:=[arcV (B++0::A) us kd]) ?_ e32)))
 rw [evsC,zF (xs:=[dI (ps,us),.int b,.int e,.str kd,.tuple []]) rfl e15];rfl
end
end Mine.Internal
end
section
namespace Mine.Internal
open PySem
noncomputable def sel (c:List Int->Int->Bool):List Int->List Int->List Int
 | _,[]=>[]
 | pre,v::r=>if c pre v then v::sel c (pre++[v]) r else sel c (pre++[v]) r
theorem selC {c:List Int->Int->Bool} {pre r:List Int} {v:Int}:sel c pre (v::r)=if c pre v then v::sel c (pre++[v]) r else sel c (pre++[v]) r:=rfl
noncomputable def fs (pre:List Int) (v:Int):Bool:=!decide (-v∈pre)
noncomputable def kdV (f:List Int):PV:=if f.all (fun v=>decide (0 < v)) then .str over else if f.any (fun v=>decide (0 < v)) then .none else .str under
noncomputable def flB:List PS:=[(.ite (.cmp .notIn (.prim .abs [(.var 3)]) (.var 1)) [(.setItem 1 (.prim .abs [(.var 3)]) (.const (.bool true))),(.append 2 (.cmp .gt (.var 3) (.const (.int 0))))] [])]
noncomputable def bL (f:List Int):List PV:=f.map fun v=>PV.bool (decide (0 < v))
noncomputable def flρ (D:PV) (o f:List Int) (u:Option PV):Slots:=[some D,some (.dict (dE o)),some (.list (bL f)),u,none,none,none,none,none,none]
theorem fl_go {cf:Nat->List PV->Res PV} {D:PV}:∀ {r pre o f:List Int} {u:Option PV},(pre++r).Nodup->(pre++r).length < 1000->o.length<=pre.length->f.length<=pre.length->(∀ a,a∈o↔∃ v∈pre,absI v=a) ->
  ∃ o' u',forGo (fun ρ'=>exs cf ρ' flB) (.one 3) (r.map .int) (flρ D o f u)=.ok (.next (flρ D o' (f++sel fs pre r) u'))
 | [],pre,o,f,u,_,_,_,_,_=>⟨o,u,by rw [sel,List.append_nil];rfl⟩
 | v::r,pre,o,f,u,hn,hl,ho,hf,hm=>by
  have ap:pre++v::r=pre++[v]++r:=by rw [List.append_assoc];rfl
  have hvp:v∉pre:=fun h=>(List.nodup_append.1 hn).2.2 v h v List.mem_cons_self rfl
  have hv:absI v∈o↔-v∈pre:=by
   rw [hm]
   refine ⟨fun ⟨w,hw,e⟩=>?_,fun h=>⟨-v,h,absI_neg v⟩⟩
   rcases absI_eq e with q | q
   ·exact absurd (q ▸ hw) hvp
   ·rw [q,Int.neg_neg];exact hw
  have hpl:pre.length+1+r.length < 1000:=by rw [List.length_append,List.length_cons] at hl;exact xp147 hl
  rw [ap] at hn hl
  have hc:ev cf (flρ D o f (some (.int v))) (.cmp .notIn (.prim .abs [(.var 3)]) (.var 1))=.ok (.bool (!decide (absI v∈o))):=by
   show (((isin (.int (absI v)) (.dict (dE o))).bind _).bind _)=_
   rw [isin_int dE_fits,dE_has];rfl
  rw [selC]
  by_cases q:-v∈pre
  ·rw [show fs pre v=false by unfold fs;rw [decide_eq_true q];rfl,if_neg Bool.false_ne_true]
   rw [decide_eq_true (hv.2 q)] at hc
   obtain ⟨o',u',e⟩:=fl_go (cf:=cf) (D:=D) (r:=r) (pre:=pre++[v]) (o:=o) (f:=f) (u:=some (.int v)) hn hl (by rw [List.length_append];exact xp166 ho) (by rw [List.length_append];exact xp166 hf) fun a=>(hm a).trans ⟨fun ⟨w,hw,e⟩=>⟨w,List.mem_append_left _ hw,e⟩,fun ⟨w,hw,e⟩=>by
    rcases List.mem_append.1 hw with h | h
    ·exact ⟨w,h,e⟩
    ·rw [List.mem_singleton.1 h] at e;exact ⟨-v,q,(absI_neg v).trans e⟩⟩
   exact ⟨o',u',(zH (ρ1:=flρ D o f (some (.int v))) rfl ((zB (ex_skip hc)).trans exs_0)).trans e⟩
  ·rw [show fs pre v=true by unfold fs;rw [decide_eq_false q];rfl,if_pos rfl]
   have hno:absI v∉o:=fun h=>q (hv.1 h)
   rw [decide_eq_false hno] at hc
   obtain ⟨o',u',e⟩:=fl_go (cf:=cf) (D:=D) (r:=r) (pre:=pre++[v]) (o:=o++[absI v]) (f:=f++[v]) (u:=some (.int v)) hn hl (by rw [List.length_append,List.length_append,List.length_singleton];exact Nat.succ_le_succ ho) (by rw [List.length_append,List.length_append];exact Nat.succ_le_succ hf) fun a=>by
    rw [List.mem_append,hm,List.mem_singleton]
    exact ⟨fun h=>h.elim (fun ⟨w,hw,e⟩=>⟨w,List.mem_append_left _ hw,e⟩) fun e=>⟨v,List.mem_append_right _ List.mem_cons_self,e.symm⟩,fun ⟨w,hw,e⟩=>(List.mem_append.1 hw).imp (fun h=>⟨w,h,e⟩) fun h=>by rw [List.mem_singleton.1 h] at e;exact e.symm⟩
   rw [List.append_assoc] at e
   refine ⟨o',u',(zH (ρ1:=flρ D o f (some (.int v))) (ρ2:=flρ D (o++[absI v]) (f++[v]) (some (.int v))) rfl ?_).trans e⟩
   refine (zB ?_).trans exs_0
   rw [ex_ite hc]
   refine (zB (ex_setItem (l:=dE o) (kk:=.int (absI v)) rfl rfl rfl rfl dE_fits (by unfold dE;rw [List.length_map];unfold lim;exact xp169 ho hpl))).trans ((zB (ex_append (l:=bL f) (d:=.bool (decide (0 < v))) rfl rfl (by unfold bL;rw [List.length_map];unfold lim;exact xp169 hf hpl))).trans ?_)
   rw [exs_0,dE_put hno,show bL f++[PV.bool (decide (0 < v))]=bL (f++[v]) by unfold bL;rw [List.map_append];rfl];rfl
theorem bools_f:∀ (f:List Int),bools? (bL f)=some (f.map fun v=>decide (0 < v))
 | []=>rfl
 | v::f=>by show (bools? (bL f)).map _=_;rw [bools_f f];rfl
theorem sel_le {c:List Int->Int->Bool}:∀ (r pre:List Int),(sel c pre r).length<=r.length
 | [],_=>Nat.le_refl _
 | v::r,pre=>by
  have:=sel_le r (pre++[v]) (c:=c)
  rw [selC,List.length_cons];split
  ·rw [List.length_cons];exact xp160 this
  ·exact xp3 this
theorem fall {k:Nat} {ps us:List Int} (d:Dr ps us):callN zA (k+6) 17 [dI (ps,us)]=.ok (kdV (sel fs [] ps)):=by
 have e8:=need_drawing (k:=k) d
 have hl:ps.length<=20:=by rw [d.1.good.len];have:=d.1.n10;exact xp161 this
 rw [c2 (by rfl)]
 generalize callN zA (k+5)=cf at *
 obtain ⟨o,u,e⟩:=fl_go (cf:=cf) (D:=dI (ps,us)) (r:=ps) (pre:=[]) (o:=[]) (f:=[]) (u:=none) d.1.good.nd (by rw [List.nil_append];exact xp162 hl) (Nat.le_refl _) (Nat.le_refl _) fun a=>⟨fun h=>absurd h List.not_mem_nil,fun ⟨_,h,_⟩=>absurd h List.not_mem_nil⟩
 rw [List.nil_append] at e
 generalize sel fs [] ps=f at e
 refine run2 (o:=.ret _) (ρ:=[some (dI (ps,us)),none,none,none,none,none,none,none,none,none]) rfl rfl ?_
 refine (zB (ex_expr (zF (xs:=[dI (ps,us)]) rfl e8))).trans ?_
 refine (zB (ρ':=[some (dI (ps,us)),some (.dict (dE [])),none,none,none,none,none,none,none,none]) rfl).trans ((zB (ρ':=flρ (dI (ps,us)) [] [] none) rfl).trans ?_)
 refine (zB (ex_for (xs:=[tI ps]) (ds:=ps.map .int) rfl rfl e)).trans ?_
 have ha:ev cf (flρ (dI (ps,us)) o f u) (.prim .all [(.var 2)])=.ok (.bool (f.all fun v=>decide (0 < v))):=by
  show allB (bL f)=_
  unfold allB;rw [bools_f]
  show Res.ok (PV.bool ((f.map fun v=>decide (0 < v)).all id))=_
  rw [List.all_map];rfl
 have hy:ev cf (flρ (dI (ps,us)) o f u) (.prim .any [(.var 2)])=.ok (.bool (f.any fun v=>decide (0 < v))):=by
  show anyB (bL f)=_
  unfold anyB;rw [bools_f]
  show Res.ok (PV.bool ((f.map fun v=>decide (0 < v)).any id))=_
  rw [List.any_map];rfl
 cases q1:f.all fun v=>decide (0 < v) with
 | true=>
  rw [q1] at ha
  refine exs_r ?_
  rw [ex_ite ha];rfl
 | false=>
  rw [q1] at ha
  refine (zB (ex_skip ha)).trans ?_
  have hy:=ev_not hy
  cases q2:f.any fun v=>decide (0 < v) with
  | true=>rw [q2] at hy;exact (zB (ex_skip hy)).trans (exs_r rfl)
  | false=>
   rw [q2] at hy
   refine exs_r ?_
   rw [ex_ite hy];rfl
noncomputable def dP (P:List Int):List (Key×PV):=P.zipIdx.map fun p=>(Key.int (absI p.1),PV.int p.2)
theorem dP_fits {P:List Int} {i:Int}:dfits (dP P) (.int i)=true:=by simp [dfits,dP,sameII]
theorem dP_len {P:List Int}:(dP P).length=P.length:=by unfold dP;rw [List.length_map,List.length_zipIdx]
theorem dP_has {P:List Int} {a:Int}:dhas (dP P) (.int a)=decide (a∈P.map absI):=by
 rw [Bool.eq_iff_iff]
 unfold dhas dP
 rw [List.any_eq_true,decide_eq_true_iff]
 constructor
 ·rintro ⟨p,hp,e⟩
  obtain ⟨y,hy,rfl⟩:=List.mem_map.1 hp
  exact List.mem_map.2 ⟨y.1,List.fst_mem_of_mem_zipIdx hy,Key.int.inj (of_decide_eq_true e)⟩
 ·intro h
  obtain ⟨v,hv,e⟩:=List.mem_map.1 h
  obtain ⟨j,hj,e2⟩:=List.getElem_of_mem hv
  refine ⟨(.int (absI v),.int j),List.mem_map.2 ⟨(v,j),?_,rfl⟩,decide_eq_true (by rw [e])⟩
  rw [List.mk_mem_zipIdx_iff_getElem?,List.getElem?_eq_getElem hj,e2]
theorem dP_put {P:List Int} {v:Int} (hn:absI v∉P.map absI):dput (dP P) (.int (absI v)) (.int (P.length:Int))=dP (P++[v]):=by
 unfold dput;rw [dP_has,decide_eq_false hn,if_neg Bool.false_ne_true];simp [dP,List.zipIdx_append]
theorem dP_go {a u:Int} (hu:absI u=a) {M:List Int}:∀ {A:List Int} {j:Nat},(∀ v∈A,absI v≠a)->(((A++u::M).zipIdx j).map fun p=>(Key.int (absI p.1),PV.int p.2)).find? (fun p=>p.1=Key.int a)=some (Key.int a,PV.int ((j+A.length:Nat):Int))
 | [],j,_=>by rw [List.nil_append,List.zipIdx_cons,List.map_cons,List.find?_cons];simp [hu]
 | c::A,j,h=>by
  have hne:decide (Key.int (absI c)=Key.int a)=false:=decide_eq_false fun q=>h c List.mem_cons_self (Key.int.inj q)
  rw [List.cons_append,List.zipIdx_cons,List.map_cons,List.find?_cons]
  simp only [hne]
  rw [dP_go hu fun v hv=>h v (List.mem_cons_of_mem _ hv),List.length_cons,Nat.add_right_comm,Nat.add_assoc]
theorem dP_get {u:Int} {A M:List Int} (h:∀ v∈A,absI v≠absI u):dget (dP (A++u::M)) (.int (absI u))=some (.int (A.length:Int)):=by
 have:=dP_go (u:=u) rfl (M:=M) (j:=0) h
 rw [Nat.zero_add] at this
 unfold dget dP;rw [this];rfl
noncomputable def foB:List PS:=[(.ite (.cmp .isIn (.prim .abs [(.var 3)]) (.var 1)) [(.ret (.tup [(.idx (.var 1) (.prim .abs [(.var 3)])),(.var 2)]))] []),(.setItem 1 (.prim .abs [(.var 3)]) (.var 2))]
noncomputable def foρ (D:PV) (P:List Int) (a b:Option PV):Slots:=[some D,some (.dict (dP P)),a,b,none,none,none,none,none,none]
theorem forGo_r {body:Slots->Res Out} {t:Tgt} {d x:PV} {ds:List PV} {ρ ρ1:Slots} (h1:setTgt t d ρ=.ok ρ1) (h2:body ρ1=.ok (.ret x)):forGo body t (d::ds) ρ=.ok (.ret x):=by
 simp only [forC,h1,bindK,h2]
theorem fo_go {cf:Nat->List PV->Res PV} {D:PV} {ps:List Int} {n:Nat} (g:Good n ps) (hl:ps.length < 1000) (hne:ps≠[]):∀ {r P:List Int} {a b:Option PV},ps=P++r->NP P ->
  ∃ A u M B,ps=A++u::M++-u::B/\NP (A++u::M)/\forGo (fun ρ'=>exs cf ρ' foB) (.many [2,3]) (((r.map PV.int).zipIdx P.length).map fun p=>PV.tuple [.int p.2,p.1]) (foρ D P a b)=.ok (.ret (.tuple [.int (A.length:Int),.int ((A++u::M).length:Nat)]))
 | [],P,a,b,e,hp=>by
  rw [List.append_nil] at e
  subst e
  obtain ⟨v,r,rfl⟩:=List.exists_cons_of_ne_nil hne
  have:=g.ok v List.mem_cons_self
  exact absurd (g.mem (i:=-v) (by exact xp102 this.1) (by rw [absI_neg];exact this.2)) (hp v List.mem_cons_self)
 | v::r,P,a,b,e,hp=>by
  have hn:=g.nd
  have hv:=g.ok v (e ▸ List.mem_append_right _ List.mem_cons_self)
  rw [e] at hn
  have hvP:v∉P:=fun h=>(List.nodup_append.1 hn).2.2 v h v List.mem_cons_self rfl
  have hPl:P.length < 1000:=by rw [e,List.length_append] at hl;exact xp163 hl
  have hm:absI v∈P.map absI↔-v∈P:=by
   rw [List.mem_map]
   refine ⟨fun ⟨w,hw,e⟩=>?_,fun h=>⟨-v,h,absI_neg v⟩⟩
   rcases absI_eq e with q | q
   ·exact absurd (q ▸ hw) hvP
   ·rw [q,Int.neg_neg];exact hw
  have hc:ev cf (foρ D P (some (.int P.length)) (some (.int v))) (.cmp .isIn (.prim .abs [(.var 3)]) (.var 1))=.ok (.bool (decide (absI v∈P.map absI))):=by
   show ((isin (.int (absI v)) (.dict (dP P))).bind _)=_
   rw [isin_int dP_fits,dP_has];rfl
  have ht:setTgt (.many [2,3]) (.tuple [.int P.length,.int v]) (foρ D P a b)=.ok (foρ D P (some (.int P.length)) (some (.int v))):=rfl
  rw [List.map_cons,List.zipIdx_cons,List.map_cons]
  by_cases q:-v∈P
  ·obtain ⟨A,M,rfl⟩:=List.append_of_mem q
   rw [decide_eq_true (hm.2 q)] at hc
   refine ⟨A,-v,M,r,by rw [Int.neg_neg];exact e,hp,forGo_r ht (exs_r ?_)⟩
   rw [ex_ite hc]
   have hg:dget (dP (A++-v::M)) (.int (absI v))=some (.int (A.length:Int)):=by
    rw [<-absI_neg v]
    refine dP_get fun w hw e2=>?_
    rw [absI_neg] at e2
    rcases absI_eq e2 with q | q
    ·exact hvP (q ▸ List.mem_append_left _ hw)
    ·have n1:=(List.nodup_append.1 (List.nodup_append.1 hn).1).2.2 w hw (-v) List.mem_cons_self
     exact (xp168 q n1).elim
   have hi:ev cf (foρ D (A++-v::M) (some (.int ((A++-v::M).length:Nat))) (some (.int v))) (.idx (.var 1) (.prim .abs [(.var 3)]))=.ok (.int (A.length:Int)):=by
    show (if dfits (dP (A++-v::M)) (.int (absI v))=true then (match dget (dP (A++-v::M)) (.int (absI v)) with | some d=>Res.ok d | none=>.stuck) else .stuck)=_
    rw [if_pos dP_fits,hg]
   refine exs_r (ex_ret ?_)
   rw [vE3,evsC,hi];rfl
  ·have hno:absI v∉P.map absI:=fun h=>q (hm.1 h)
   rw [decide_eq_false hno] at hc
   obtain ⟨A,u,M,B,h1,h2,h3⟩:=fo_go (cf:=cf) (D:=D) g hl hne (r:=r) (P:=P++[v]) (a:=some (.int P.length)) (b:=some (.int v)) (by rw [e,List.append_assoc];rfl) (hp.snoc hv.1 q)
   rw [List.length_append,List.length_singleton] at h3
   refine ⟨A,u,M,B,h1,h2,(zH ht ?_).trans h3⟩
   refine (zB (ex_skip hc)).trans ((zB (ex_setItem (l:=dP P) (kk:=.int (absI v)) (d:=.int P.length) rfl rfl rfl rfl dP_fits (by rw [dP_len];unfold lim;exact xp170 hPl))).trans ?_)
   rw [exs_0,dP_put hno];rfl
theorem first_loop {k n:Nat} {ps:List Int} (g:Good n ps) (hl:ps.length < 1000) (hne:ps≠[]):∃ A u M B,ps=A++u::M++-u::B/\NP (A++u::M)/\callN zA (k+1) 18 [tI ps]=.ok (.tuple [.int (A.length:Int),.int ((A++u::M).length:Nat)]):=by
 obtain ⟨A,u,M,B,h1,h2,h3⟩:=fo_go (cf:=callN zA k) (D:=tI ps) g hl hne (r:=ps) (P:=[]) (a:=none) (b:=none) rfl (fun _ h=>absurd h List.not_mem_nil)
 refine ⟨A,u,M,B,h1,h2,?_⟩
 rw [c2 (by rfl)]
 refine run2 (o:=.ret _) (ρ:=[some (tI ps),none,none,none,none,none,none,none,none,none]) rfl rfl ?_
 exact (zB (ρ':=foρ (tI ps) [] none none) rfl).trans (exs_r (ex_for (xs:=[tI ps]) rfl rfl h3))
noncomputable def kS (b:Bool):Str:=if b then over else under
theorem kS_or (b:Bool):kS b=over\/kS b=under:=by cases b;exact .inr rfl;exact .inl rfl
theorem knd_kS {b:Bool} {v:Int} (h:knd b v=true):if kS b==over then 0 < v else v < 0:=by
 cases b
 ·exact of_decide_eq_true h
 ·exact of_decide_eq_true h
noncomputable def unC:PE:=.cmp .gt (.prim .len [(.idx (.var 0) (.const (.int 0)))]) (.const (.int 0))
noncomputable def unB:List PS:=[(.unpack [3,4] (.call 18 false [(.idx (.var 0) (.const (.int 0)))])),(.append 2 (.tup [(.var 3),(.var 4),(.var 1),(.tup [])])),(.assign 0 (.call 16 false [(.var 0),(.var 3),(.var 4),(.var 1),(.tup [])]))]
noncomputable def unρ (D:PV) (b:Bool) (F:List PV) (x y:Option PV):Slots:=[some D,some (.str (kS b)),some (.list F),x,y,none,none,none,none,none,none]
theorem un_go {k:Nat} {b:Bool}:∀ (m:Nat) {ps us:List Int} {F:List PV} {x y:Option PV} {j:Nat},ps.length<=m->m < j->F.length+m < 1000->FDr ps us->Fall b ps ->
  ∃ D F' x' y',whileGo (fun ρ'=>ev (callN zA (k+9)) ρ' unC) (fun ρ'=>exs (callN zA (k+9)) ρ' unB) j (unρ (dI (ps,us)) b F x y)=.ok (.next (unρ D b F' x' y'))
 | m,ps,us,F,x,y,0,_,h,_,_,_=>absurd h (Nat.not_lt_zero _)
 | m,ps,us,F,x,y,j+1,hm,hj,hF,d,hf=>by
  have ht:ev (callN zA (k+9)) (unρ (dI (ps,us)) b F x y) unC=.ok (.bool (decide ((ps.length:Int) > 0))):=by
   show Res.ok (PV.bool (decide ((((ps.map PV.int).length:Nat):Int) > 0)))=_
   rw [List.length_map]
  by_cases hne:ps=[]
  ·refine ⟨_,F,x,y,whileGo_f ?_⟩
   show ev _ _ _=_
   rw [ht,hne];rfl
  ·have g:=d.ok.good
   have hlen:ps.length<=20:=by rw [g.len];have:=d.ok.n10;exact xp161 this
   have hpos:0 < ps.length:=List.length_pos_iff.2 hne
   obtain ⟨A,u,M,B,e,np,e18⟩:=first_loop (k:=k+8) g (by exact xp167 hm hF) hne
   obtain ⟨A',B',hY,hP,hR,h0,hlt,d',hf'⟩:=loop_next d hf e np
   have hs:Str3 ps us us.length A.length (A++u::M).length (kS b):=⟨g,rfl,d.ok.tn,⟨d.ok,fun c hc=>d.cnt hc⟩,d.ok.n10,by rw [List.length_append];exact xp33,by have:=congrArg List.length e;rw [List.length_append] at this;exact xp105 this,kS_or b,fun v hv=>by
    rw [(cut_at e).2.2] at hv;exact knd_kS (fall_pre g.nd hf e np v hv)⟩
   have e16:=lay (k:=k) hs hY ⟨hP.row,fun v hv h=>by
    have:v∈A'++B':=by
     rcases List.mem_append.1 hv with q | q
     ·exact List.mem_append_right _ q
     ·exact List.mem_append_left _ ((List.mem_cons.1 q).resolve_left h)
    exact (h0 v this).2,d.ok.tn⟩ hR h0
   obtain ⟨m',rfl⟩:∃ m',m=m'+1:=⟨m-1,by exact xp171 hm hpos⟩
   obtain ⟨D,F',x',y',ih⟩:=un_go (k:=k) m' (ps:=(A'++B').map (rnm ((A'++B').foldl ordS []))) (us:=rnT us ((A'++B').foldl ordS [])) (F:=F++[.tuple [.int (A.length:Int),.int ((A++u::M).length:Nat),.str (kS b),.tuple []]]) (x:=some (.int (A.length:Int))) (y:=some (.int ((A++u::M).length:Nat))) (j:=j) (by rw [List.length_map];exact xp172 hlt hm) (by exact xp173 hj) (by rw [List.length_append,List.length_singleton];exact xp147 hF) d' hf'
   refine ⟨D,F',x',y',Eq.trans (whileGo_t ?_ ?_) ih⟩
   ·show ev _ _ _=_
    rw [ht,decide_eq_true (by exact xp174 hpos)]
   ·show exs _ _ _=_
    generalize callN zA (k+9)=cf at *
    refine (zB (ρ':=unρ (dI (ps,us)) b F (some (.int (A.length:Int))) (some (.int ((A++u::M).length:Nat)))) ?_).trans ?_
    ·rw [xE3,zF (xs:=[tI ps]) rfl e18];rfl
    refine (zB (ex_append (l:=F) (d:=.tuple [.int (A.length:Int),.int ((A++u::M).length:Nat),.str (kS b),.tuple []]) rfl rfl (by unfold lim;exact xp150 hF))).trans ?_
    exact (zB (zE (zF (xs:=[dI (ps,us),.int (A.length:Int),.int ((A++u::M).length:Nat),.str (kS b),.tuple []]) rfl e16))).trans rfl
theorem sel_fs {v:Int}:∀ {r pre:List Int},v∈r->v∉sel fs pre r->[-v,v].Sublist (pre++r)
 | [],_,h,_=>absurd h List.not_mem_nil
 | w::r,pre,h,hn=>by
  rw [selC] at hn
  by_cases q:fs pre w=true
  ·rw [if_pos q] at hn
   have hw:v≠w:=fun e=>hn (e ▸ List.mem_cons_self)
   have:=sel_fs (pre:=pre++[w]) ((List.mem_cons.1 h).resolve_left hw) fun z=>hn (List.mem_cons_of_mem _ z)
   rw [List.append_assoc] at this;exact this
  ·rw [if_neg q] at hn
   by_cases hw:v=w
   ·subst hw
    have hp:-v∈pre:=by
     unfold fs at q
     apply Classical.byContradiction;intro z
     rw [decide_eq_false z] at q;exact q rfl
    exact (List.singleton_sublist.2 hp).append (List.singleton_sublist.2 List.mem_cons_self)
   ·have:=sel_fs (pre:=pre++[w]) ((List.mem_cons.1 h).resolve_left hw) hn
    rw [List.append_assoc] at this;exact this
theorem kd_fall {ps:List Int} (h0:∀ v∈ps,v≠0) {s:Str} (h:kdV (sel fs [] ps)=.str s):∃ b,s=kS b/\Fall b ps:=by
 unfold kdV at h
 have key:∀ b,(∀ v∈sel fs [] ps,knd b v=true)->Fall b ps:=fun b hb v hv hk=>by
  refine (sel_fs (pre:=[]) hv fun z=>?_)
  rw [hb v z] at hk;cases hk
 split at h
 ·rename_i q
  refine ⟨true,(PV.str.inj h).symm,key true fun v hv=>?_⟩
  exact List.all_eq_true.1 q v hv
 ·split at h
  ·cases h
  ·rename_i q
   refine ⟨false,(PV.str.inj h).symm,key false fun v hv=>?_⟩
   have hv':v∈ps:=by
    have:∀ (r pre:List Int),v∈sel fs pre r->v∈r:=by
     intro r
     induction r with
     | nil=>intro pre h;exact h
     | cons w r ih=>
      intro pre h
      rw [selC] at h
      split at h
      ·rcases List.mem_cons.1 h with e | h
       ·exact e ▸ List.mem_cons_self
       ·exact List.mem_cons_of_mem _ (ih _ h)
      ·exact List.mem_cons_of_mem _ (ih _ h)
    exact this ps [] hv
   have h1:¬ 0 < v:=fun z=>q (List.any_eq_true.2 ⟨v,hv,decide_eq_true z⟩)
   have h2:=h0 v hv'
   exact decide_eq_true (by exact xp133 h1 h2)
theorem undone {k:Nat} {ps us:List Int} (d:FDr ps us) {s:Str} (h:kdV (sel fs [] ps)=.str s):∃ l,callN zA (k+10) 19 [dI (ps,us)]=.ok (.list l):=by
 obtain ⟨b,rfl,hf⟩:=kd_fall (fun v hv=>(d.ok.good.ok v hv).1) h
 have e17:callN zA (k+9) 17 [dI (ps,us)]=.ok (.str (kS b)):=by rw [<-h];exact fall (k:=k+3) ⟨d.ok,fun c hc=>d.cnt hc⟩
 have hlen:ps.length<=20:=by rw [d.ok.good.len];have:=d.ok.n10;exact xp161 this
 obtain ⟨D,F,x,y,e⟩:=un_go (k:=k) (b:=b) 20 (F:=[]) (x:=none) (y:=none) (j:=fuel) hlen (by unfold fuel;exact xp164) (by rw [List.length_nil];exact xp165) d hf
 refine ⟨F,?_⟩
 rw [c2 (by rfl)]
 generalize callN zA (k+9)=cf at *
 refine run2 (o:=.ret _) (ρ:=[some (dI (ps,us)),none,none,none,none,none,none,none,none,none,none]) rfl rfl ?_
 refine (zB (ρ':=[some (dI (ps,us)),some (.str (kS b)),none,none,none,none,none,none,none,none,none]) (zE (zF (xs:=[dI (ps,us)]) rfl e17))).trans ?_
 refine (zB (ex_skip rfl)).trans ((zB (ρ':=unρ (dI (ps,us)) b [] none none) rfl).trans ((zB (ex_while e)).trans (exs_r rfl)))
theorem refused {k:Nat} {ps us:List Int} (d:FDr ps us) (h:kdV (sel fs [] ps)=.none):callN zA (k+8) 28 [dI (ps,us)]=.ok (.bool true):=by
 have e17:callN zA (k+6) 17 [dI (ps,us)]=.ok .none:=by rw [<-h];exact fall (k:=k) ⟨d.ok,fun c hc=>d.cnt hc⟩
 have er:callN zA (k+7) 1019 [dI (ps,us)]=.ok .none:=by
  show runR f9_undone (callN zA (k+6)) [dI (ps,us)]=_
  generalize callN zA (k+6)=cf at *
  show exr cf [some (dI (ps,us)),none,none,none,none,none,none,none,none,none,none] f9_undone.body=_
  show (ev cf _ (.call 17 false [(.var 0)])).bind _=_
  rw [zF (xs:=[dI (ps,us)]) rfl e17];rfl
 rw [c2 (by rfl)]
 generalize callN zA (k+7)=cf at *
 refine run2 (o:=.ret _) (ρ:=[some (dI (ps,us)),none,none,none,none,none,none,none]) rfl rfl (exs_r ?_)
 show ((cf 1019 [dI (ps,us)]).bind _)=_
 rw [er];rfl
end Mine.Internal
end
section
namespace Mine.Internal
open PySem
theorem isin_tup {l:List Int} {i:Int}:isin (.int i) (.tuple (l.map .int))=.ok (decide (i∈l)):=isin_ints (l:=l) (i:=i)
theorem comp_en {elt:Slots->Res PV} {cond:Slots->Res Bool} {i j:Nat} {c:List Int->Int->Bool} {g:Int->PV} {σ:Option PV->Option PV->Slots} {ps:List Int} (hσ:∀ a b x y,setTgt (.many [i,j]) (.tuple [x,y]) (σ a b)=.ok (σ (some x) (some y)))
  (H:∀ p v s,ps=p++v::s->cond (σ (some (.int p.length)) (some (.int v)))=.ok (c p v)/\elt (σ (some (.int p.length)) (some (.int v)))=.ok (g v)):∀ {r pre:List Int} {a b:Option PV},ps=pre++r ->
  compGo elt cond (.many [i,j]) (((r.map PV.int).zipIdx pre.length).map fun p=>PV.tuple [.int p.2,p.1]) (σ a b)=.ok ((sel c pre r).map g)
 | [],_,_,_,_=>rfl
 | v::r,pre,a,b,e=>by
  obtain ⟨h1,h2⟩:=H pre v r e
  have ih:=comp_en (elt:=elt) (cond:=cond) (c:=c) (g:=g) hσ H (r:=r) (pre:=pre++[v]) (a:=some (.int pre.length)) (b:=some (.int v)) (by rw [e,List.append_assoc];rfl)
  rw [List.length_append,List.length_singleton] at ih
  rw [List.map_cons,List.zipIdx_cons,List.map_cons,compC,hσ,bindK,h1,bindK,h2,ih,selC]
  cases c pre v<;>rfl
theorem sl_pre {ps p s:List Int} {v:Int} (e:ps=p++v::s):slc Option.none (some (.int (p.length:Int))) (tI ps)=.ok (.tuple (p.map .int)):=by
 have:=sl_H (l:=ps.map PV.int) (b:=p.length) (by rw [List.length_map,e,List.length_append];exact xp33)
 rw [<-List.map_take,e,List.take_left] at this
 rw [e];exact this
theorem deps_int:∀ l:List Int,PV.depths (l.map .int)=0
 | []=>rfl
 | _::l=>by show max 0 (PV.depths (l.map .int))=0;rw [deps_int l];rfl
theorem eq_nil {l:List Int}:cmpop .eq (.list (l.map .int)) (.list [])=.ok (decide (l=[])):=by
 show (if (PV.flats (l.map .int)&&true&&decide (PV.depths (l.map .int)+1<=60))=true then Res.ok (PV.eqs (l.map .int) []) else .stuck)=_
 rw [flats_int,deps_int,if_pos (show (true&&true&&decide (0+1<=60))=true from rfl)]
 cases l with
 | nil=>rfl
 | cons a l=>rw [decide_eq_false (List.cons_ne_nil a l)];rfl
noncomputable def pI (p:Int->Bool):PV->Bool
 | .int v=>p v
 | _=>false
theorem filtI {p:Int->Bool}:∀ {l:List Int},(l.map PV.int).filter (pI p)=(l.filter p).map PV.int
 | []=>rfl
 | v::l=>by
  rw [List.map_cons,List.filter_cons,List.filter_cons,filtI]
  show (if p v=true then _ else _)=_
  cases p v<;>rfl
noncomputable def lfρ (P:PV) (s a b:Option PV):Slots:=[some P,s,a,b,none,none,none,none]
theorem lf_sel {cf:Nat->List PV->Res PV} {P:PV} {b:Option PV} {f:List Int} {o:COp} {p:Int->Bool} (ho:∀ v:Int,cmpop o (.int v) (.int 0)=.ok (p v)) (hl:f.length<=1000):ev cf (lfρ P (some (.list (f.map .int))) none b) (.cmp .eq (.comp (.var 2) (.one 2) .seq [(.var 1)] [(.cmp o (.var 2) (.const (.int 0)))]) (.lst []))=.ok (.bool (decide (f.filter p=[]))):=by
 refine ev_cmp (o:=.eq) (x:=.list ((f.filter p).map .int)) (y:=.list []) (ev_comp (xs:=[.list (f.map .int)]) (ds:=f.map .int) rfl rfl ?_ ?_) rfl eq_nil
 ·have:=comp_filter (elt:=fun ρ'=>ev cf ρ' (.var 2)) (cond:=fun ρ'=>evAnd cf ρ' [(.cmp o (.var 2) (.const (.int 0)))]) (i:=2) (p:=pI p) (f:=id) (ds:=f.map .int) (ρ:=clr (.one 2) (lfρ P (some (.list (f.map .int))) none b)) (fun d hd=>by
   obtain ⟨v,_,rfl⟩:=List.mem_map.1 hd
   refine ⟨?_,rfl⟩
   refine (evAnd_b (b:=p v) (ev_cmp (x:=.int v) (y:=.int 0) rfl rfl (ho v))).trans ?_
   rw [evAndN]
   show _=Res.ok (p v)
   cases p v<;>rfl)
  rw [this,filtI,List.map_id]
 ·rw [List.length_map];have:=List.length_filter_le p f;unfold lim;exact xp175 hl this
theorem law_fall {n:Nat} {ps:List Int} (h0:∀ v∈ps,v≠0) (hl:ps.length<=1000):callN zA (n+1) 27 [tI ps]=.ok (kdV (sel fs [] ps)):=by
 rw [c2 (by rfl)]
 generalize callN zA n=cf
 have hle:=sel_le (c:=fs) ps []
 have hm:∀ v∈sel fs [] ps,v≠0:=by
  have:∀ (r pre:List Int) (v:Int),v∈sel fs pre r->v∈r:=by
   intro r
   induction r with
   | nil=>intro pre v h;exact h
   | cons w r ih=>
    intro pre v h
    rw [selC] at h
    split at h
    ·rcases List.mem_cons.1 h with e | h
     ·exact e ▸ List.mem_cons_self
     ·exact List.mem_cons_of_mem _ (ih _ _ h)
    ·exact List.mem_cons_of_mem _ (ih _ _ h)
  exact fun v hv=>h0 v (this ps [] v hv)
 have e1:ev cf (lfρ (tI ps) none none none) (.comp (.var 3) (.many [2,3]) .enum [(.var 0)] [(.cmp .notIn (.neg (.var 3)) (.slH (.var 0) (.var 2)))])=.ok (.list ((sel fs [] ps).map .int)):=by
  refine ev_comp (xs:=[tI ps]) (ds:=((ps.map PV.int).zipIdx 0).map fun p=>PV.tuple [.int p.2,p.1]) rfl rfl ?_ (by rw [List.length_map];unfold lim;exact xp175 hl hle)
  refine comp_en (elt:=fun ρ'=>ev cf ρ' (.var 3)) (cond:=fun ρ'=>evAnd cf ρ' [(.cmp .notIn (.neg (.var 3)) (.slH (.var 0) (.var 2)))]) (c:=fs) (g:=PV.int) (σ:=fun a b=>lfρ (tI ps) none a b) (ps:=ps) (fun _ _ _ _=>rfl) (fun p v s e=>⟨?_,rfl⟩) (r:=ps) (pre:=[]) (a:=none) (b:=none) rfl
  have es:ev cf (lfρ (tI ps) none (some (.int p.length)) (some (.int v))) (.slH (.var 0) (.var 2))=.ok (.tuple (p.map .int)):=sl_pre e
  refine (evAnd_b (b:=fs p v) (ev_cmp (o:=.notIn) (x:=.int (-v)) rfl es (by rw [copNi,isin_tup];rfl))).trans ?_
  rw [evAndN];cases fs p v<;>rfl
 generalize sel fs [] ps=f at *
 refine run2 (o:=.ret _) (ρ:=lfρ (tI ps) none none none) rfl rfl ?_
 refine (zB (ρ':=lfρ (tI ps) (some (.list (f.map .int))) none none) (zE e1)).trans ?_
 have c1:=lf_sel (cf:=cf) (P:=tI ps) (b:=none) (f:=f) (o:=.lt) (p:=fun v=>decide (v < 0)) (fun _=>rfl) (by exact xp178 hl hle)
 have c2':=lf_sel (cf:=cf) (P:=tI ps) (b:=none) (f:=f) (o:=.gt) (p:=fun v=>decide (v > 0)) (fun _=>rfl) (by exact xp178 hl hle)
 have q1:decide (f.filter (fun v=>decide (v < 0))=[])=f.all fun v=>decide (0 < v):=by
  rw [Bool.eq_iff_iff,decide_eq_true_iff,List.filter_eq_nil_iff,List.all_eq_true]
  refine forall_congr' fun v=>forall_congr' fun hv=>?_
  have:=hm v hv
  simp;omega
 have q2:decide (f.filter (fun v=>decide (v > 0))=[])=!f.any fun v=>decide (0 < v):=by
  rw [Bool.eq_iff_iff,decide_eq_true_iff,List.filter_eq_nil_iff,Bool.not_eq_true',List.any_eq_false]
 rw [q1] at c1
 rw [q2] at c2'
 cases q3:f.all fun v=>decide (0 < v) with
 | true=>rw [q3] at c1;refine exs_r ?_;rw [ex_ite c1];rfl
 | false=>
  rw [q3] at c1
  refine (zB (ex_skip c1)).trans ?_
  cases q4:f.any fun v=>decide (0 < v) with
  | true=>rw [q4] at c2';exact (zB (ex_skip c2')).trans (exs_r rfl)
  | false=>rw [q4] at c2';refine exs_r ?_;rw [ex_ite c2'];rfl
section
variable {cf:Nat->List PV->Res PV} {ps us:List Int} {S:Int->Bool} {ρ:Slots} {i:Nat} {c:PE} {a x y:PE}
theorem flip_row (hl:ps.length<=1000) (ha:ev cf ρ a=.ok (tI ps)) (hs:∀ d,slot ((ρ.set i none).set i (some d)) i=.ok d) (hc:∀ v:Int,ev cf ((ρ.set i none).set i (some (.int v))) c=.ok (.bool (S (absI v)))):
  ev cf ρ (.prim .tupleOf [.comp (.ite c (.neg (.var i)) (.var i)) (.one i) .seq [a] []])=.ok (tI (ps.map (flp S))):=by
 have:ev cf ρ (.comp (.ite c (.neg (.var i)) (.var i)) (.one i) .seq [a] [])=.ok (.list ((ps.map (flp S)).map .int)):=by
  refine ev_comp (xs:=[tI ps]) (ds:=ps.map .int) (by rw [evsC,ha];rfl) rfl ?_ (by rw [List.length_map,List.length_map];unfold lim;exact xp176 hl)
  rw [List.map_map]
  refine comp_map2 (elt:=fun ρ'=>ev cf ρ' (.ite c (.neg (.var i)) (.var i))) (cond:=fun ρ'=>evAnd cf ρ' []) (i:=i) (a:=PV.int) (b:=PV.int ∘ flp S) fun v _=>⟨rfl,?_⟩
  show ev cf ((ρ.set i none).set i (some (.int v))) _=Res.ok (PV.int (flp S v))
  rw [vE13,hc,bindK]
  show (if S (absI v)=true then _ else _)=_
  unfold flp
  cases S (absI v) with
  | true=>rw [if_pos rfl,if_pos rfl,vE7,vE1,hs];rfl
  | false=>rw [if_neg Bool.false_ne_true,if_neg Bool.false_ne_true,vE1,hs]
 rw [vE20,evsC,this];rfl
theorem flip_turns (hl:us.length<=1000) (hx:ev cf ρ x=.ok (.int (us.length:Nat))) (hs:∀ d,slot ((ρ.set i none).set i (some d)) i=.ok d) (hy:∀ d,ev cf ((ρ.set i none).set i (some d)) y=.ok (tI us)) (hc:∀ v:Int,ev cf ((ρ.set i none).set i (some (.int v))) c=.ok (.bool (S (v+1)))):
  ev cf ρ (.prim .tupleOf [.comp (.ite c (.neg (.idx y (.var i))) (.idx y (.var i))) (.one i) .range1 [x] []])=.ok (tI (flpT S us)):=by
 have:ev cf ρ (.comp (.ite c (.neg (.idx y (.var i))) (.idx y (.var i))) (.one i) .range1 [x] [])=.ok (.list ((flpT S us).map .int)):=by
  refine ev_comp (xs:=[.int (us.length:Nat)]) (ds:=(List.range us.length).map fun (k:Nat)=>PV.int (0+(k:Int))) (by rw [evsC,hx];rfl) ?_ ?_ (by rw [List.length_map,flpT_len];unfold lim;exact xp176 hl)
  ·rw [items_range,decide_eq_true (Int.natCast_nonneg _),decide_eq_true (by unfold lim;exact xp177 hl),if_pos (show (true&&true)=true from rfl),upto,Int.sub_zero,Int.toNat_natCast]
  ·unfold flpT
   rw [List.map_map]
   refine comp_map2 (elt:=fun ρ'=>ev cf ρ' (.ite c (.neg (.idx y (.var i))) (.idx y (.var i)))) (cond:=fun ρ'=>evAnd cf ρ' []) (i:=i) (a:=fun (k:Nat)=>PV.int (0+(k:Int))) (b:=PV.int ∘ fun (k:Nat)=>if S ((k:Int)+1) then -(us.getD k 0) else us.getD k 0) fun k hk=>⟨rfl,?_⟩
   have hk:=List.mem_range.1 hk
   show ev cf ((ρ.set i none).set i (some (.int (0+(k:Int))))) _=Res.ok (PV.int (if S ((k:Int)+1) then -(us.getD k 0) else us.getD k 0))
   rw [Int.zero_add]
   have hg:ev cf ((ρ.set i none).set i (some (.int (k:Int)))) (.idx y (.var i))=.ok (.int (us.getD k 0)):=by
    rw [vE14,hy,bindK,vE1,hs]
    show (if (0:Int)<=k then (match (us.map PV.int)[(k:Int).toNat]? with | some d=>Res.ok d | none=>.stuck) else .stuck)=_
    rw [if_pos (Int.natCast_nonneg k),Int.toNat_natCast,List.getElem?_map,List.getD_eq_getElem?_getD,List.getElem?_eq_getElem hk];rfl
   rw [vE13,hc,bindK]
   show (if S ((k:Int)+1)=true then _ else _)=_
   cases S ((k:Int)+1) with
   | true=>rw [if_pos rfl,if_pos rfl,vE7,hg];rfl
   | false=>rw [if_neg Bool.false_ne_true,if_neg Bool.false_ne_true,hg]
 rw [vE20,evsC,this];rfl
end
theorem big_lt {v:Int} (h:v.natAbs < 1000000):big v=false:=by unfold big;exact decide_eq_false (by omega)
theorem law_falling {n:Nat} {ps us:List Int} {sg:Int} (hl:ps.length<=1000) (hu:us.length<=1000) (hsg:sg=1\/sg=-1) (hb:∀ v∈ps,absI v<=us.length):∃ S,callN zA (n+1) 26 [dI (ps,us),.int sg]=.ok (dI (ps.map (flp S),flpT S us)):=by
 obtain ⟨ab,hab⟩:∃ ab:List Int,ab=(sel (fun p v=>fs p v&&decide (v*sg < 0)) [] ps).map absI:=⟨_,rfl⟩
 refine ⟨fun a=>decide (a∈ab),?_⟩
 rw [c2 (by rfl)]
 generalize callN zA n=cf
 have hle:=sel_le (c:=fun p v=>fs p v&&decide (v*sg < 0)) ps []
 refine run2 (o:=.ret _) (ρ:=[some (dI (ps,us)),some (.int sg),none,none,none,none,none,none,none,none,none,none]) rfl rfl ?_
 refine (zB (ρ':=[some (dI (ps,us)),some (.int sg),some (tI ps),some (tI us),none,none,none,none,none,none,none,none]) rfl).trans ?_
 refine (zB (ρ':=[some (dI (ps,us)),some (.int sg),some (tI ps),some (tI us),some (.list (ab.map .int)),none,none,none,none,none,none,none]) (zE ?_)).trans ?_
 ·refine ev_comp (xs:=[tI ps]) (ds:=((ps.map PV.int).zipIdx 0).map fun p=>PV.tuple [.int p.2,p.1]) rfl rfl ?_ (by rw [List.length_map,hab,List.length_map];unfold lim;exact xp175 hl hle)
  rw [hab,List.map_map]
  refine comp_en (elt:=fun ρ'=>ev cf ρ' (.prim .abs [(.var 7)])) (cond:=fun ρ'=>evAnd cf ρ' [(.and [(.cmp .notIn (.neg (.var 7)) (.slH (.var 2) (.var 6))),(.cmp .lt (.bin .mul (.var 7) (.var 1)) (.const (.int 0)))])]) (c:=fun p v=>fs p v&&decide (v*sg < 0)) (g:=PV.int ∘ absI) (σ:=fun a b=>[some (dI (ps,us)),some (.int sg),some (tI ps),some (tI us),none,none,a,b,none,none,none,none]) (ps:=ps) (fun _ _ _ _=>rfl) (fun p v s e=>⟨?_,rfl⟩) (r:=ps) (pre:=[]) (a:=none) (b:=none) rfl
  have hv:=hb v (e ▸ List.mem_append_right _ List.mem_cons_self)
  have hbv:big v=false:=big_lt (by unfold absI at hv;split at hv<;>omega)
  have hbs:big sg=false:=by rcases hsg with rfl | rfl<;>decide
  obtain ⟨ρ,hρ⟩:∃ ρ:Slots,ρ=[some (dI (ps,us)),some (.int sg),some (tI ps),some (tI us),none,none,some (.int p.length),some (.int v),none,none,none,none]:=⟨_,rfl⟩
  show evAnd cf [some (dI (ps,us)),some (.int sg),some (tI ps),some (tI us),none,none,some (.int p.length),some (.int v),none,none,none,none] _=_
  rw [<-hρ]
  have es:ev cf ρ (.slH (.var 2) (.var 6))=.ok (.tuple (p.map .int)):=by rw [hρ];exact sl_pre e
  have e1:ev cf ρ (.cmp .notIn (.neg (.var 7)) (.slH (.var 2) (.var 6)))=.ok (.bool (fs p v)):=ev_cmp (o:=.notIn) (x:=.int (-v)) (by rw [hρ];rfl) es (by rw [copNi,isin_tup];rfl)
  have e2:ev cf ρ (.cmp .lt (.bin .mul (.var 7) (.var 1)) (.const (.int 0)))=.ok (.bool (decide (v*sg < 0))):=ev_cmp (o:=.lt) (x:=.int (v*sg)) (y:=.int 0) (ev_mul (by rw [hρ];rfl) (by rw [hρ];rfl) hbv hbs) rfl rfl
  have e3:evAnd cf ρ [(.cmp .notIn (.neg (.var 7)) (.slH (.var 2) (.var 6))),(.cmp .lt (.bin .mul (.var 7) (.var 1)) (.const (.int 0)))]=.ok (fs p v&&decide (v*sg < 0)):=by
   rw [evAnd_b e1,evAnd_b e2,evAndN]
   cases fs p v<;>cases decide (v*sg < 0)<;>rfl
  rw [evAnd_b (ev_and e3),evAndN]
  cases fs p v&&decide (v*sg < 0)<;>rfl
 have hin:∀ (ρ:Slots) (e:PE) (i:Int),ev cf ρ e=.ok (.int i)->ev cf ρ (.var 4)=.ok (.list (ab.map .int))->ev cf ρ (.cmp .isIn e (.var 4))=.ok (.bool (decide (i∈ab))):=fun ρ e i h1 h2=>ev_cmp (o:=.isIn) h1 h2 isin_ints
 refine (zB (ρ':=[some (dI (ps,us)),some (.int sg),some (tI ps),some (tI us),some (.list (ab.map .int)),some (tI (ps.map (flp fun a=>decide (a∈ab)))),none,none,none,none,none,none]) (zE ?_)).trans (exs_r (ex_ret ?_))
 ·exact flip_row (S:=fun a=>decide (a∈ab)) hl rfl (fun _=>rfl) fun v=>hin _ _ (absI v) rfl rfl
 ·rw [vE3,evsC,evsC,flip_turns (us:=us) (S:=fun a=>decide (a∈ab)) hu (by show Res.ok (PV.int ((us.map PV.int).length:Nat))=_;rw [List.length_map]) (fun _=>rfl) (fun _=>rfl) fun v=>hin _ _ (v+1) rfl rfl];rfl
end Mine.Internal
end
section
namespace Mine.Internal
open PySem
noncomputable def lwρ (S:PV) (ps us:List Int) (x:Int) (a b c d e:Option PV):Slots:=[some S,some (dI (ps,us)),some (.int x),a,b,c,d,e,none,none,none,none,none,none]
theorem FDr.nil:FDr [] []:=by
 have hr:Row ([]++[0]) (qU []):=⟨List.nodup_cons.2 ⟨List.not_mem_nil,List.nodup_nil⟩,fun v hv=>by rw [List.mem_singleton.1 hv];exact List.mem_cons_self,fun v hv h=>absurd (List.mem_singleton.1 hv) h,fun v hv h=>absurd (List.mem_singleton.1 hv) h⟩
 refine ⟨⟨⟨List.nodup_nil,fun i hi=>absurd hi List.not_mem_nil,rfl,rfl⟩,fun t ht=>absurd ht List.not_mem_nil,Nat.zero_le _⟩,hr,List.mem_cons_self,fun A B e c hc=>?_⟩
 have hBA:B++A=[0]:=by
  cases A with
  | nil=>rw [List.append_nil];exact e.symm
  | cons a A=>
   have h2:=List.cons.inj e
   obtain ⟨h3,h4⟩:=List.append_eq_nil_iff.1 h2.2.symm
   rw [h3,h4,<-h2.1];rfl
 rw [hBA] at hc
 have g:=genus 1 (Nat.le_refl _) hr hc
 rw [if_pos (show (0:Int)∈[]++[0] from List.mem_cons_self)] at g
 obtain ⟨rs,h1,_,_,h4⟩:=hc
 obtain ⟨r,h5,_⟩:=h4 (0,true) (mem_rsd.2 (Nat.succ_pos _))
 have:=List.length_pos_of_mem h5
 have hl:([]++[0]:List Int).length=1:=rfl
 exact xp182 g h1 this hl
theorem drawn_ok {n:Nat} (x:Int):∃ ps us,FDr ps us/\callN zA (n+3) 25 [.int x,.int 7]=.ok (dI (ps,us)):=by
 obtain ⟨s,wd,k0,B,hk0,f24⟩:=drawn (n:=n) x
 have hsg:=sgO_ok B.ok
 by_cases h2:2<=s
 ·obtain ⟨w0,hw0,hw⟩:=B.more h2
  have o0:=closed_rope h2 B.h5 hw0
  rw [<-hw] at o0
  have o:=o0.rot k0 hk0
  have hwl:(wd.map (·.1)).length<=10:=by rw [List.length_map];exact B.len
  have hl:=dts_len (sg:=sgO wd) o.code
  have d:DOk (dps (rot k0 (rnd (wd.map (·.1)) s 0)) (sgO wd)) (dts (rot k0 (rnd (wd.map (·.1)) s 0)) (sgO wd)):=⟨by rw [show (dts (rot k0 (rnd (wd.map (·.1)) s 0)) (sgO wd)).length=_ from hl];exact dps_good o.code hsg,dts_ok hsg,by rw [show (dts (rot k0 (rnd (wd.map (·.1)) s 0)) (sgO wd)).length=_ from hl];exact hwl⟩
  exact ⟨_,_,⟨d,rope_pl o hsg d⟩,f24⟩
 ·have hs1:s=1:=by have:=B.h0;exact xp180 h2 this
  have hwd:=B.one hs1
  subst hwd;subst hs1
  have hE:dI (dps (rot k0 (rnd (([]:List (Nat×Int)).map (·.1)) 1 0)) (sgO []),dts (rot k0 (rnd (([]:List (Nat×Int)).map (·.1)) 1 0)) (sgO []))=dI ([],[]):=by
   have:rot k0 (rnd (([]:List (Nat×Int)).map (·.1)) 1 0)=[]:=by
    show rot k0 ([]:List Sd)=[]
    simp [rot]
   rw [this];rfl
  rw [hE] at f24
  exact ⟨[],[],.nil,f24⟩
section
variable {k:Nat} {ps us:List Int} {S:PV} {x:Int}
theorem FDr.lens (d:FDr ps us):ps.length<=20/\us.length<=10:=⟨by rw [d.ok.good.len];have:=d.ok.n10;exact xp161 this,d.ok.n10⟩
theorem law_a {r:List PS} (d:FDr ps us):∃ ps' us',FDr ps' us'/\exs (callN zA (k+1)) (lwρ S ps us x none none none none none) ((.ite (.cmp .gt (.bin .mod (.var 2) (.const (.int 4))) (.const (.int 0))) [(.assign 1 (.call 26 false [(.var 1),(.idx (.lst [(.const (.int 1)),(.neg (.const (.int 1)))]) (.bin .mod (.bin .fdiv (.var 2) (.const (.int 4))) (.const (.int 2))))]))] [])::r)=exs (callN zA (k+1)) (lwρ S ps' us' x none none none none none) r:=by
 have hc:ev (callN zA (k+1)) (lwρ S ps us x none none none none none) (.cmp .gt (.bin .mod (.var 2) (.const (.int 4))) (.const (.int 0)))=.ok (.bool (decide (Int.fmod x 4 > 0))):=rfl
 cases q:decide (Int.fmod x 4 > 0) with
 | false=>rw [q] at hc;exact ⟨ps,us,d,zB (ex_skip hc)⟩
 | true=>
  rw [q] at hc
  obtain ⟨T,e⟩:=law_falling (n:=k) (ps:=ps) (us:=us) (sg:=pm (Int.fdiv x 4)) (by have:=d.lens;exact xp179 this.1) (by have:=d.lens;exact xp181 this.2) (pm_ok _) fun v hv=>(d.ok.good.ok v hv).2
  refine ⟨_,_,d.flip T,zB ?_⟩
  rw [ex_ite hc]
  refine (zB (zE (zF (xs:=[dI (ps,us),.int (pm (Int.fdiv x 4))]) ?_ e))).trans rfl
  rw [evsC,show ev (callN zA (k+1)) (lwρ S ps us x none none none none none) (.var 1)=.ok (dI (ps,us)) from rfl,bindK,evsC,ev_pm (v:=Int.fdiv x 4) rfl];rfl
theorem law_b {r:List PS} {cf:Nat->List PV->Res PV} (d:FDr ps us):∃ ps' us' a b c,FDr ps' us'/\exs cf (lwρ S ps us x none none none none none) ((.ite (.and [(.cmp .eq (.bin .mod (.var 2) (.const (.int 4))) (.const (.int 3))),(.cmp .gt (.prim .len [(.idx (.var 1) (.const (.int 1)))]) (.const (.int 0)))]) [(.assign 3 (.bin .add (.const (.int 1)) (.bin .mod (.bin .fdiv (.var 2) (.const (.int 8))) (.prim .len [(.idx (.var 1) (.const (.int 1)))])))),(.assign 4 (.prim .tupleOf [(.comp (.ite (.cmp .eq (.prim .abs [(.var 8)]) (.var 3)) (.neg (.var 8)) (.var 8)) (.one 8) .seq [(.idx (.var 1) (.const (.int 0)))] [])])),(.assign 5 (.prim .tupleOf [(.comp (.ite (.cmp .eq (.bin .add (.var 8) (.const (.int 1))) (.var 3)) (.neg (.idx (.idx (.var 1) (.const (.int 1))) (.var 8))) (.idx (.idx (.var 1) (.const (.int 1))) (.var 8))) (.one 8) .range1 [(.prim .len [(.idx (.var 1) (.const (.int 1)))])] [])])),(.assign 1 (.tup [(.var 4),(.var 5)]))] [])::r)=exs cf (lwρ S ps' us' x a b c none none) r:=by
 have hl:=d.lens
 have hlen:∀ a b:Option PV,ev cf (lwρ S ps us x a b none none none) (.prim .len [(.idx (.var 1) (.const (.int 1)))])=.ok (.int (us.length:Nat)):=fun a b=>by
  show Res.ok (PV.int ((us.map PV.int).length:Nat))=_
  rw [List.length_map]
 have c1:ev cf (lwρ S ps us x none none none none none) (.cmp .eq (.bin .mod (.var 2) (.const (.int 4))) (.const (.int 3)))=.ok (.bool (Int.fmod x 4==3)):=rfl
 have c2:ev cf (lwρ S ps us x none none none none none) (.cmp .gt (.prim .len [(.idx (.var 1) (.const (.int 1)))]) (.const (.int 0)))=.ok (.bool (decide ((us.length:Int) > 0))):=ev_cmp (o:=.gt) (hlen none none) (y:=.int 0) rfl rfl
 have hc:=ev_and ((evAnd_b (r:=[.cmp .gt (.prim .len [(.idx (.var 1) (.const (.int 1)))]) (.const (.int 0))]) c1).trans (show _=Res.ok ((Int.fmod x 4==3)&&decide ((us.length:Int) > 0)) by
  rw [evAnd_b c2,evAndN]
  cases (Int.fmod x 4==3)<;>cases decide ((us.length:Int) > 0)<;>rfl))
 cases q:(Int.fmod x 4==3)&&decide ((us.length:Int) > 0) with
 | false=>rw [q] at hc;exact ⟨ps,us,none,none,none,d,zB (ex_skip hc)⟩
 | true=>
  rw [q] at hc
  have hpos:(us.length:Int) > 0:=of_decide_eq_true (Bool.and_eq_true_iff.1 q).2
  obtain ⟨m,hm⟩:∃ m:Int,m=1+Int.fmod (Int.fdiv x 8) us.length:=⟨_,rfl⟩
  refine ⟨_,_,some (.int m),some (tI (ps.map (flp fun a=>a==m))),some (tI (flpT (fun a=>a==m) us)),d.flip fun a=>a==m,zB ?_⟩
  rw [ex_ite hc]
  refine (zB (ρ':=lwρ S ps us x (some (.int m)) none none none none) (zE ?_)).trans ?_
  ·refine ev_bin (x:=.int 1) (y:=.int (Int.fmod (Int.fdiv x 8) us.length)) rfl (ev_bin (x:=.int (Int.fdiv x 8)) rfl (hlen none none) ?_) (by rw [hm];rfl)
   show (if (us.length:Int)=0 then Res.stuck else Res.ok (PV.int (Int.fmod (Int.fdiv x 8) us.length)))=_
   rw [if_neg (by exact xp183 hpos)]
  refine (zB (ρ':=lwρ S ps us x (some (.int m)) (some (tI (ps.map (flp fun a=>a==m)))) none none none) (zE ?_)).trans ?_
  ·exact flip_row (S:=fun a=>a==m) (by exact xp179 hl.1) rfl (fun _=>rfl) fun v=>rfl
  refine (zB (ρ':=lwρ S ps us x (some (.int m)) (some (tI (ps.map (flp fun a=>a==m)))) (some (tI (flpT (fun a=>a==m) us))) none none) (zE ?_)).trans ?_
  ·exact flip_turns (S:=fun a=>a==m) (by exact xp181 hl.2) (hlen _ _) (fun _=>rfl) (fun _=>rfl) fun v=>rfl
  exact (zB rfl).trans exs_0
theorem kdV_eq (f:List Int):cmpop .ne (kdV f) (kdV f)=.ok false:=by unfold kdV;split;rfl;split<;>rfl
theorem kdV_or (f:List Int):kdV f=.none\/∃ s,kdV f=.str s:=by
 unfold kdV;split
 ·exact .inr ⟨_,rfl⟩
 ·split
  ·exact .inl rfl
  ·exact .inr ⟨_,rfl⟩
theorem law_c (d:FDr ps us) {a b c:Option PV}:exs (callN zA 10) (lwρ S ps us x a b c none none) [(.assign 6 (.call 27 false [(.idx (.var 1) (.const (.int 0)))])),
 (.assign 7 (.call 17 false [(.var 1)])),
 (.ite (.or [(.cmp .ne (.var 7) (.var 6)),(.and [(.cmp .isNot (.var 6) (.const .none)),(.not (.prim (.isi .str) [(.var 7)]))])]) [(.ret (.const (.bool false)))] []),
 (.ret (.and [(.ite (.cmp .is_ (.var 6) (.const .none)) (.call 28 false [(.var 1)]) (.prim (.isi .list) [(.call 19 false [(.var 1)])])),(.cmp .eq (.call 17 false [(.tup [(.tup []),(.tup [])])]) (.const (.str "over")))]))]=.ok (.ret (.bool true)):=by
 have hl:=d.lens
 have e27:=law_fall (n:=9) (ps:=ps) (fun v hv=>(d.ok.good.ok v hv).1) (by exact xp179 hl.1)
 have e17:=fall (k:=4) (ps:=ps) (us:=us) ⟨d.ok,fun c hc=>d.cnt hc⟩
 have e0:callN zA 10 17 [dI ([],[])]=.ok (.str over):=fall (k:=4) (ps:=[]) (us:=[]) ⟨FDr.nil.ok,fun c hc=>FDr.nil.cnt hc⟩
 have e28:=fun h=>refused (k:=2) d h
 have e19:∀ {s:Str},kdV (sel fs [] ps)=.str s->∃ l,callN zA 10 19 [dI (ps,us)]=.ok (.list l):=fun h=>undone (k:=0) d h
 have e27:callN zA 10 27 [tI ps]=.ok (kdV (sel fs [] ps)):=e27
 have e17:callN zA 10 17 [dI (ps,us)]=.ok (kdV (sel fs [] ps)):=e17
 have e28:kdV (sel fs [] ps)=.none->callN zA 10 28 [dI (ps,us)]=.ok (.bool true):=e28
 generalize callN zA 10=cf at *
 have hn:=kdV_eq (sel fs [] ps)
 have ho:=kdV_or (sel fs [] ps)
 generalize kdV (sel fs [] ps)=K at *
 refine (zB (ρ':=lwρ S ps us x a b c (some K) none) (zE (zF (xs:=[tI ps]) rfl e27))).trans ?_
 refine (zB (ρ':=lwρ S ps us x a b c (some K) (some K)) (zE (zF (xs:=[dI (ps,us)]) rfl e17))).trans ?_
 have hor:ev cf (lwρ S ps us x a b c (some K) (some K)) (.or [(.cmp .ne (.var 7) (.var 6)),(.and [(.cmp .isNot (.var 6) (.const .none)),(.not (.prim (.isi .str) [(.var 7)]))])])=.ok (.bool false):=by
  refine ev_or ((evOr_f (ev_cmp (o:=.ne) (x:=K) (y:=K) rfl rfl hn)).trans ((evOr_f ?_).trans evOrN))
  rcases ho with rfl | ⟨s,rfl⟩<;>rfl
 refine (zB (ex_skip hor)).trans (exs_r (ex_ret (ev_and ?_)))
 have last:evAnd cf (lwρ S ps us x a b c (some K) (some K)) [(.cmp .eq (.call 17 false [(.tup [(.tup []),(.tup [])])]) (.const (.str "over")))]=.ok true:=
  (evAnd_b (b:=true) (ev_cmp (o:=.eq) (x:=.str over) (y:=.str over) (zF (xs:=[dI ([],[])]) rfl e0) rfl rfl)).trans rfl
 refine (evAnd_b (b:=true) ?_).trans last
 rcases ho with rfl | ⟨s,rfl⟩
 ·rw [vE13,show ev cf (lwρ S ps us x a b c (some .none) (some .none)) (.cmp .is_ (.var 6) (.const .none))=.ok (.bool true) from rfl,bindK]
  show (if true=true then _ else _)=_
  rw [if_pos rfl]
  exact zF (xs:=[dI (ps,us)]) rfl (e28 rfl)
 ·obtain ⟨l,e⟩:=e19 rfl
  rw [vE13,show ev cf (lwρ S ps us x a b c (some (.str s)) (some (.str s))) (.cmp .is_ (.var 6) (.const .none))=.ok (.bool false) from rfl,bindK]
  show (if false=true then _ else _)=_
  rw [if_neg Bool.false_ne_true,vE20,evsC,zF (xs:=[dI (ps,us)]) rfl e];rfl
end
theorem law_true (ns:List Int):callN zA 11 29 [.list (ns.map .int)]=.ok (.bool true):=by
 obtain ⟨c0,f0⟩:=cell_at (n:=9) (k:=0) ns
 obtain ⟨c1,f1⟩:=cell_at (n:=9) (k:=1) ns
 obtain ⟨ps,us,d,f25⟩:=drawn_ok (n:=7) c0
 obtain ⟨xs,hx,hxr,f21⟩:=stream (n:=9) c1 (many:=1) (by decide)
 obtain ⟨x,rfl⟩:∃ x,xs=[x]:=by
  match xs,hx with
  | [x],_=>exact ⟨x,rfl⟩
 obtain ⟨ps1,us1,d1,ea⟩:=law_a (k:=9) (S:=.list (ns.map .int)) (x:=x) (r:=f9_law.body.drop 3) d
 obtain ⟨ps2,us2,a,b,c,d2,eb⟩:=law_b (cf:=callN zA 10) (S:=.list (ns.map .int)) (x:=x) (r:=f9_law.body.drop 4) d1
 have ec:=law_c (S:=.list (ns.map .int)) (x:=x) d2 (a:=a) (b:=b) (c:=c)
 rw [c2 (by rfl)]
 have f0:callN zA 10 20 [.list (ns.map .int),.int (0:Int)]=.ok (.int c0):=f0
 have f1:callN zA 10 20 [.list (ns.map .int),.int (1:Int)]=.ok (.int c1):=f1
 have f25:callN zA 10 25 [.int c0,.int 7]=.ok (dI (ps,us)):=f25
 have f21:callN zA 10 21 [.int c1,.int (1:Int)]=.ok (.list ([x].map .int)):=f21
 have ea:exs (callN zA 10) _ _=_:=ea
 generalize callN zA 10=cf at *
 refine run2 (o:=.ret _) (ρ:=[some (.list (ns.map .int)),none,none,none,none,none,none,none,none,none,none,none,none,none]) rfl rfl ?_
 refine (zB (ρ':=[some (.list (ns.map .int)),some (dI (ps,us)),none,none,none,none,none,none,none,none,none,none,none,none]) (zE (zF (xs:=[.int c0,.int 7]) ?_ f25))).trans ?_
 ·rw [evsC,zF (xs:=[.list (ns.map .int),.int 0]) rfl f0];rfl
 refine (zB (ρ':=lwρ (.list (ns.map .int)) ps us x none none none none none) (zE ?_)).trans ?_
 ·rw [vE14,zF (xs:=[.int c1,.int 1]) ?_ f21]
  ·rfl
  ·rw [evsC,zF (xs:=[.list (ns.map .int),.int 1]) rfl f1];rfl
 exact ea.trans (eb.trans ec)
end Mine.Internal
end
section
open PySem PySem.W PyProof.Rows
namespace Mine.Internal
noncomputable def os3:List (Str×Opt):=[("_law_cycles",{fr:=true,own:=["_law_heads"]}),("lifted",{fr:=true,own:=["things"]}),("turns_of",{fr:=true}),("face_of",{fr:=true}),("face",{fr:=true}),("is_able",{skip:=true})]
noncomputable def more3:List (Str×GE):=[("MARK",.const (.int 0)),("MOST",.const (.int 40))]
noncomputable def veM:List Value:=[.type "ValueError",.type "Exception",.type "BaseException",.type "object"]
set_option maxRecDepth 100000
theorem st_len:(gdefs view2).length=30:=by kernel_rfl
theorem st_hok:((defs view2).all fun d=>(optOf os3 d.name).skip||defOk os3 d)=true:=by kernel_rfl
theorem st_hpl:plainOk view2 (looseW view2 [])=true:=by kernel_rfl
theorem st_hx:(mkG os3 (gdefs view2) more3).lookup ("law" : Str)=some (.fn 29 1 false):=by kernel_rfl
theorem st_v0:valOf view2 ("MARK" : Str)=some (.int 0):=by kernel_rfl
theorem st_v1:valOf view2 ("MOST" : Str)=some (.int 40):=by kernel_rfl
theorem st_c0:specOf view2 ("NotFalling" : Str)=some ("ValueError.__new__",veM):=by kernel_rfl
theorem st_rk:RkAt view2 200 os3 (mkG os3 (gdefs view2) more3) zA 19 (1,.call 17 false [(.var 0)],.cmp .is_ (.var 1) (.const .none)) where
 few:=by decide
 rk:=by kernel_rfl
 lk:=⟨1,false,by kernel_rfl⟩
 fk:=⟨f9_undone,_,rfl,rfl⟩
end Mine.Internal
end
section
open PySem PySem.W PyProof.Rows
namespace Mine.Internal
set_option maxRecDepth 100000
theorem st_hf:(defs view2).map (fnOf 200 os3 (mkG os3 (gdefs view2) more3))=zA.map some:=by kernel_rfl
end Mine.Internal
end
section
open PySem PySem.W PyProof.Rows
namespace Mine.Internal
theorem m30 (D:Nat) {d:PV} (h:notObj d=true):callN zA D 30 [d]=.stuck:=by
 cases D with
 | zero=>rfl
 | succ D=>
  rw [callS (fn:=f9_face) rfl]
  cases d with
  | obj _ _ _ _ _=>cases h
  | _=>rfl
theorem m32 (D:Nat) {d:PV} (h:notObj d=true):callN zA D 32 [d]=.stuck:=by
 cases D with
 | zero=>rfl
 | succ D=>
  rw [callS (fn:=f9_drawing) rfl]
  cases d with
  | obj _ _ _ _ _=>cases h
  | _=>rfl
theorem m31 (D:Nat) {d:PV} (h:notObj d=true):callN zA D 31 [d]=.stuck:=by
 cases D with
 | zero=>rfl
 | succ D=>
  rw [callS (fn:=f9_leads) rfl]
  have e:=m30 D h
  generalize callN zA D=cf at e
  show ((ex cf (some d::List.replicate 6 none) (.ret (.cmp .isIn (.tup [(.const (.int 0)),(.neg (.const (.int 1)))]) (.call 30 false [(.var 0)])))).bind _).bind _=_
  rw [xE11,vE9,show ev cf (some d::List.replicate 6 none) (.call 30 false [.var 0])=.stuck by show (cf 30 [d]).bind _=_;rw [e];rfl];rfl
theorem st_ho:∀ D m i ar fr,meths.lookup m=some (.fn i ar fr)->∀ d,notObj d=true->callN zA D i [d]=.stuck:=by
 intro D m i ar fr hm d hd
 have hm:=mem_of_lookup hm
 simp only [meths,List.mem_cons,List.not_mem_nil,or_false,Prod.mk.injEq,GE.fn.injEq] at hm
 rcases hm with ⟨rfl,rfl,rfl,rfl⟩ | ⟨rfl,rfl,rfl,rfl⟩ | ⟨rfl,rfl,rfl,rfl⟩
 ·exact m30 D hd
 ·exact m31 D hd
 ·exact m32 D hd
set_option maxRecDepth 100000 in
theorem st_ms:(["face","leads","drawing"]:List Str).map (fun x=>((optOf os3 (mDef x).name).skip,(optOf os3 (mDef x).name).fr,(mDef x).args.args.length))=[(false,true,1),(false,false,1),(false,false,1)]:=by kernel_rfl
theorem st_hms:∀ x i ar fr,meths.lookup x=some (.fn i ar fr)->(optOf os3 (mDef x).name).skip=false/\(optOf os3 (mDef x).name).fr=fr/\(mDef x).args.args.length=1:=by
 intro x i ar fr hm
 have hm:=mem_of_lookup hm
 have q:=st_ms
 simp only [List.map_cons,List.map_nil,List.cons.injEq,Prod.mk.injEq,and_true] at q
 simp only [meths,List.mem_cons,List.not_mem_nil,or_false,Prod.mk.injEq,GE.fn.injEq] at hm
 rcases hm with ⟨rfl,rfl,rfl,rfl⟩ | ⟨rfl,rfl,rfl,rfl⟩ | ⟨rfl,rfl,rfl,rfl⟩
 ·exact q.1
 ·exact q.2.1
 ·exact q.2.2
theorem st_more:∀ q∈more3,moreOk view2 q:=by
 intro q hq
 simp only [more3,List.mem_cons,List.not_mem_nil,or_false] at hq
 rcases hq with rfl | rfl
 ·exact st_v0
 ·exact st_v1
end Mine.Internal
end
section
open PySem PySem.W PyProof.Rows
namespace Mine.Internal
noncomputable def ArcSays (_:World) (h:Heap):Prop:=∃ mg C N mN,h.Ns mainGlobals mg/\mg arcRec.name=some (.ref C)/\PlainAt h arcRec C N mN
theorem arc_of (w:World) (s:Shared) (e:arcSeen s=arcGood w):ArcSays w s.heap:=by
 have e1:s.heap.plainShapeAt arcRec=some arcRec.plainShape:=congrArg Prod.fst e
 have e2:s.heap.isNs mainGlobals=true:=congrArg Prod.snd e
 obtain ⟨C,N,h1,P⟩:=plainAt_of_shape e1
 exact ⟨_,C,N,_,.of_isNs e2,h1,P⟩
theorem arc_keeps (w:World) (h h':Heap) (x:ArcSays w h) (k:∀ b o,h.get? b=some o->h'.get? b=some o):ArcSays w h':=by
 obtain ⟨mg,C,N,mN,h1,h2,P⟩:=x
 exact ⟨mg,C,N,mN,h1.keeps k,h2,P.keeps k⟩
theorem ns_same {h:Heap} {a:Addr} {m m':Str->Option Value} (x:h.Ns a m) (y:h.Ns a m') (n:Str):m n=m' n:=by
 obtain ⟨o,es,ep,ho,hd,_,hf⟩:=x
 obtain ⟨o',es',ep',ho',hd',_,hf'⟩:=y
 rw [ho] at ho';cases ho'
 rw [hd] at hd';cases hd'
 rw [<-hf,hf']
set_option maxRecDepth 100000 in
theorem arc_name:arcRec.name=("Arc" : Str):=by kernel_rfl
noncomputable def d3:DefRec×List (Str×PySem.Expr):=(defOf view2 ("law" : Str)).getD (⟨"",default,[],default,default⟩,[])
theorem d3_def:defOf view2 PySem.Challenge.rw_uf030002_09.row.name=some (d3.1,d3.2):=by kernel_rfl
theorem d3_the:PySem.Challenge.rw_uf030002_09.row.prog.theDef PySem.Challenge.rw_uf030002_09.row.name=some (d3.1.params,d3.1.body,d3.1.scope):=by kernel_rfl
theorem d3_kw:kwWritten? d3.1.params.kwonlyargs d3.1.params.kw_defaults=some d3.2:=by kernel_rfl
theorem pp_w:PP wc:=fun s₁ mean mg mb fa a vs ns T X XC hmg hx hI hlen=>by
 obtain ⟨hA,N,mN,P⟩:=X
 exact codeAny_mono (entry (os:=os3) (more:=more3) (K:=200) (fns:=zA) T XC PySem.F.excBase_ValueError st_c0 hA P st_len st_more st_hpl st_rk st_hok st_hf st_hms st_ho st_hx hmg hx hI (by unfold lim;omega) (D:=11) (by omega) (law_true ns)) fun r s' h=>by
  obtain ⟨v,rfl,hv,hk,h',tk,rfl⟩:=h
  have hv':v=.bool true:=hv
  exact ⟨by rw [hv'],hk,h',tk,rfl⟩
theorem well_list_get {P:Params} {h:Heap} {a:Addr} {xs:List WData} (W:Well P h (.ref a) (.list xs)):∃ vs:List Value,h.get? a=some { cls:=.type "list",data:=.seq vs.toArray }:=by
 cases W with
 | list e _=>exact ⟨_,e⟩
theorem list_exact {P:Params} {h:Heap} {a:Addr} {vs:List Value} {xs:List PyData} (W:Well P h (.ref a) (ofPy (.list xs))) (L:h.IsList a vs.toArray):h.get? a=some { cls:=.type "list",data:=.seq vs.toArray }:=by
 have e0:ofPy (.list xs)=.list (ofPys xs):=by simp [ofPy]
 rw [e0] at W
 obtain ⟨us,e⟩:=well_list_get W
 obtain ⟨o,ho,hc,n,hd⟩:=L
 rw [e] at ho
 cases ho
 simp only [Data.seq.injEq] at hd
 rw [e,hd.1]
end Mine.Internal
set_option maxRecDepth 100000 in
set_option maxHeartbeats 8000000 in
theorem PySem.Challenge.cw_uf030002_09_holds : PySem.Challenge.rw_uf030002_09.Holds := by
 refine holds_law (by decide +kernel) fun said=>?_
 refine holds_open (q:=Mine.Internal.view2) (loose:=[]) (Xt:=fun s=>xlAt Mine.Internal.view2 [] s&&recOk (RowW.records PySem.Challenge.rw_uf030002_09.row.toRowW) s&&Mine.Internal.xcAt s) (XP:=fun mg h=>XL Mine.Internal.view2 [] mg h/\Mine.Internal.XcAt mg h) (Yf:=Mine.Internal.arcSeen) (Ya:=Mine.Internal.arcGood) (YP:=Mine.Internal.ArcSays) (N:=4000) (d:=Mine.Internal.d3.1) (kwd:=Mine.Internal.d3.2)
  Mine.Internal.left3 Mine.Internal.arc_of Mine.Internal.arc_keeps (fun s e=>⟨xl_of s (Bool.and_eq_true_iff.mp (Bool.and_eq_true_iff.mp e).1).1,Mine.Internal.xc_of s (Bool.and_eq_true_iff.mp e).2⟩) (fun mg h h' x k=>⟨XL.keeps mg h h' x.1 k,x.2.keeps k⟩) Mine.Internal.d3_def Mine.Internal.d3_the Mine.Internal.d3_kw (fun s e=>recFacts_of (Bool.and_eq_true_iff.mp (Bool.and_eq_true_iff.mp e).1).2) (by decide +kernel) said (by decide +kernel) ⟨rfl,rfl,rfl,rfl,rfl,by decide +kernel⟩ ?hw ?hc
 case hw=>w_witness2
 intro w s₀ s₁ mg mb G Y fa o pm cd doc dV kV ho hd hcd hD hmg hg args vals as hpre hlay hrd hwl hlo
 have XC:=G.X.2
 refine Ground.open G ?_
 intro T B D TE TW
 have X:∃ C,Mine.Internal.ArcAt mg s₁.heap C:=by
  obtain ⟨mg',C,N,mN,h1,h2,P⟩:=Y
  exact ⟨C,(Mine.Internal.ns_same T.g h1 _).trans (Mine.Internal.arc_name ▸ h2),N,mN,P⟩
 obtain ⟨C,X⟩:=X
 clear D B TE TW hd hcd hD ho Y
 wrow_args hpre hlay hrd hwl hlo
 all_goals (first | refine callC_kw (enter_call ?_) | refine enter_call ?_ | refine callC_kw (enter_callW ?_) | refine enter_callW ?_ | w_how;w_top on)
 rename_i nsv hs hlay0 hL1 hr1 hl2 as1 as2 a vs as3 hL ra W r0 hI hr hcond hcond2
 have hx:=Mine.Internal.list_exact W hL
 have hlen:nsv.length<=63:=by
  have:¬ ((63:Int) < (nsv.length:Int)):=hcond
  omega
 refine codeAny_mono (Mine.Internal.pp_all Mine.Internal.pp_w (w,C) s₁ _ mg mb fa a vs nsv T X XC hmg hx hI hlen) ?_
 rintro r s' ⟨rfl,hk,h',tk,rfl⟩
 refine GoodW.toG ⟨.inl ⟨_,.bool true,[],rfl,?_,.bool true,?_,?_⟩,hk,rfl,hg⟩
 ·intro cls;rfl
 ·wrow_post
 ·intro _;exact ⟨List.nodup_nil,fun a ha=>by cases ha⟩
end
