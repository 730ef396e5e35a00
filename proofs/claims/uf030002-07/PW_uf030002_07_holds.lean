import PyProof.Rows.All
import Wide.All
import OpenK.AllK
import OpenK.KCall
import OpenK.KDescr
import OpenK.KMore
import OpenK.KMake
import Wide.FinOn
import PySem.Challenge.RW_uf030002_07
set_option Elab.async false
set_option bootstrap.genMatcherCode false
set_option genSizeOf false
set_option genSizeOfSpec false
set_option linter.all false
section
namespace Mine.Internal.L
set_option genCtorIdx false
set_option genInjectivity false
noncomputable def d:List Int->(Nat->Int)->Int
 | [],_=>0
 | c::cs,r=>c*r 0+d cs fun i=>r (i+1)
noncomputable def add:List Int->List Int->List Int
 | [],b=>b
 | a,[]=>a
 | x::a,y::b=>(x+y)::add a b
noncomputable def mul (k:Int):List Int->List Int
 | []=>[]
 | x::a=>k*x::mul k a
noncomputable def unit:Nat->List Int
 | 0=>[1]
 | n+1=>0::unit n
theorem add4 (a b c e:Int):a+b+(c+e)=a+c+(b+e):=by rw [Int.add_assoc,Int.add_left_comm b,<-Int.add_assoc]
theorem d_add (a b:List Int) (r:Nat->Int):d (add a b) r=d a r+d b r:=by
 induction a generalizing b r with
 | nil=>exact (Int.zero_add _).symm
 | cons x a ih=>
  cases b with
  | nil=>exact (Int.add_zero _).symm
  | cons y b=>show (x+y)*r 0+d (add a b) _=_+_;rw [ih,Int.add_mul];exact add4 ..
theorem d_mul (k:Int) (a:List Int) (r:Nat->Int):d (mul k a) r=k*d a r:=by
 induction a generalizing r with
 | nil=>exact (Int.mul_zero k).symm
 | cons x a ih=>show k*x*r 0+d (mul k a) _=k*(_+_);rw [ih,Int.mul_add,Int.mul_assoc]
theorem d_unit (n:Nat) (r:Nat->Int):d (unit n) r=r n:=by
 induction n generalizing r with
 | zero=>show 1*r 0+0=r 0;rw [Int.one_mul,Int.add_zero]
 | succ n ih=>show 0*r 0+d (unit n) _=_;rw [ih,Int.zero_mul,Int.zero_add]
structure C where
 k:Int
 c:List Int
noncomputable def C.ev (r:Nat->Int) (x:C):Int:=x.k+d x.c r
noncomputable def C.add (x y:C):C:=⟨x.k+y.k,L.add x.c y.c⟩
noncomputable def C.mul (k:Int) (x:C):C:=⟨k*x.k,L.mul k x.c⟩
theorem C.ev_add (r:Nat->Int) (x y:C):(x.add y).ev r=x.ev r+y.ev r:=by
 show x.k+y.k+d (L.add x.c y.c) r=_;rw [d_add];exact add4 ..
theorem C.ev_mul (r:Nat->Int) (k:Int) (x:C):(x.mul k).ev r=k*x.ev r:=by
 show k*x.k+d (L.mul k x.c) r=_;rw [d_mul,<-Int.mul_add];rfl
noncomputable def C.sub (x y:C):C:=x.add (y.mul (-1))
theorem C.ev_sub (r:Nat->Int) (x y:C):(x.sub y).ev r=x.ev r-y.ev r:=by
 show (x.add (y.mul (-1))).ev r=_;rw [C.ev_add,C.ev_mul,Int.neg_mul,Int.one_mul];rfl
noncomputable def C.over (x y:C):C:=(x.sub y).add ⟨-1,[]⟩
theorem C.ev_over (r:Nat->Int) (x y:C):(x.over y).ev r=x.ev r-y.ev r-1:=by
 show ((x.sub y).add ⟨-1,[]⟩).ev r=_;rw [C.ev_add,C.ev_sub];rfl
noncomputable def C.hd (x:C):Int:=x.c.headD 0
noncomputable def C.tl (x:C):C:=⟨x.k,x.c.tail⟩
theorem C.ev_tl (r:Nat->Int) (x:C):x.ev r=x.hd*r 0+x.tl.ev fun i=>r (i+1):=by
 obtain ⟨k,c⟩:=x
 cases c with
 | nil=>show k+0=0*r 0+(k+0);rw [Int.zero_mul,Int.zero_add]
 | cons a c=>exact Int.add_left_comm ..
noncomputable def mix (p n:C):C:=(p.tl.mul (-n.hd)).add (n.tl.mul p.hd)
theorem mix_ok {r:Nat->Int} {p n:C} (hp:0 < p.hd) (hn:n.hd < 0) (h1:0<=p.ev r) (h2:0<=n.ev r):0<=(mix p n).ev fun i=>r (i+1):=by
 have e:(mix p n).ev (fun i=>r (i+1))=-n.hd*p.ev r+p.hd*n.ev r:=by
  show ((p.tl.mul (-n.hd)).add (n.tl.mul p.hd)).ev _=_
  rw [C.ev_add,C.ev_mul,C.ev_mul,C.ev_tl r p,C.ev_tl r n]
  generalize p.tl.ev _=a;generalize n.tl.ev _=b;generalize p.hd=u;generalize n.hd=v;generalize r 0=z
  rw [Int.mul_add,Int.mul_add,add4,<-Int.mul_assoc,<-Int.mul_assoc,<-Int.add_mul,Int.neg_mul v u,Int.mul_comm u v,Int.add_left_neg,Int.zero_mul,Int.zero_add]
 rw [e]
 exact Int.add_nonneg (Int.mul_nonneg (Int.neg_nonneg_of_nonpos (Int.le_of_lt hn)) h1) (Int.mul_nonneg (Int.le_of_lt hp) h2)
noncomputable def elim (cs:List C):List C:=
 (cs.filter fun x=>x.hd==0).map C.tl++(cs.filter fun x=>decide (0 < x.hd)).flatMap fun p=>(cs.filter fun x=>decide (x.hd < 0)).map (mix p)
theorem elim_ok {r:Nat->Int} {cs:List C} (h:∀ x∈cs,0<=x.ev r):∀ x∈elim cs,0<=x.ev fun i=>r (i+1):=by
 intro x hx
 rcases List.mem_append.mp hx with hx | hx
 ·obtain ⟨y,hy,rfl⟩:=List.mem_map.mp hx
  obtain ⟨hy,e⟩:=List.mem_filter.mp hy
  have:=h y hy
  rwa [C.ev_tl,eq_of_beq e,Int.zero_mul,Int.zero_add] at this
 ·obtain ⟨p,hp,hx⟩:=List.mem_flatMap.mp hx
  obtain ⟨n,hn,rfl⟩:=List.mem_map.mp hx
  obtain ⟨hp,e⟩:=List.mem_filter.mp hp
  obtain ⟨hn,e'⟩:=List.mem_filter.mp hn
  exact mix_ok (of_decide_eq_true e) (of_decide_eq_true e') (h p hp) (h n hn)
noncomputable def refute:Nat->List C->Bool
 | 0,cs=>cs.any fun x=>x.c.isEmpty&&decide (x.k < 0)
 | n+1,cs=>refute n cs||refute n (elim cs)
theorem refute_ok {n:Nat} {cs:List C} {r:Nat->Int} (e:refute n cs=true) (h:∀ x∈cs,0<=x.ev r):False:=by
 induction n generalizing cs r with
 | zero=>
  obtain ⟨x,hx,e⟩:=List.any_eq_true.mp e
  obtain ⟨k,c⟩:=x
  cases c with
  | nil=>exact absurd (Int.add_zero k ▸ h _ hx) (Int.not_le.mpr (of_decide_eq_true e))
  | cons a c=>cases e
 | succ n ih=>
  rcases Bool.or_eq_true_iff.mp e with e | e
  ·exact ih e h
  ·exact ih e (elim_ok h)
noncomputable def val (l:List Nat) (m:List Int) (i:Nat):Int:=if i % 2=0 then (l.getD (i / 2) 0:Nat) else m.getD (i / 2) 0
abbrev Br:=List (List C×C)
noncomputable def Br.two (f:C->C->Br) (a b:Br):Br:=a.flatMap fun p=>b.flatMap fun q=>(f p.2 q.2).map fun t=>(t.1++(p.1++q.1),t.2)
def Br.is (r:Nat->Int) (a:Br) (z:Int):Prop:=∃ p∈a,(∀ c∈p.1,0<=c.ev r)/\p.2.ev r=z
theorem Br.one {r:Nat->Int} {c:C} {z:Int} (h:c.ev r=z):Br.is r [([],c)] z:=⟨_,List.mem_singleton.mpr rfl,fun c hc=>absurd hc List.not_mem_nil,h⟩
theorem Br.two_is {r:Nat->Int} {f:C->C->Br} {a b:Br} {x y z:Int} (ha:a.is r x) (hb:b.is r y) (h:∀ p q:C,p.ev r=x->q.ev r=y->(f p q).is r z):(Br.two f a b).is r z:=by
 obtain ⟨p,hp,h1,h2⟩:=ha
 obtain ⟨q,hq,h3,h4⟩:=hb
 obtain ⟨t,ht,h5,h6⟩:=h p.2 q.2 h2 h4
 refine ⟨_,List.mem_flatMap.mpr ⟨p,hp,List.mem_flatMap.mpr ⟨q,hq,List.mem_map.mpr ⟨t,ht,rfl⟩⟩⟩,fun c hc=>?_,h6⟩
 rcases List.mem_append.mp hc with hc | hc
 ·exact h5 c hc
 ·rcases List.mem_append.mp hc with hc | hc
  ·exact h1 c hc
  ·exact h3 c hc
inductive T where
 | v (i:Nat) | c (n:Nat) | a (x y:T) | s (x y:T) | m (k:Nat) (x:T) | mn (x y:T) | mx (x y:T)
noncomputable def T.val (l:List Nat):T->Nat
 | v i=>l.getD i 0
 | c n=>n
 | a x y=>x.val l+y.val l
 | s x y=>x.val l-y.val l
 | m k x=>k*x.val l
 | mn x y=>min (x.val l) (y.val l)
 | mx x y=>max (x.val l) (y.val l)
noncomputable def T.br:T->Br
 | v i=>[([],⟨0,unit (2*i)⟩)]
 | c n=>[([],⟨n,[]⟩)]
 | a x y=>Br.two (fun p q=>[([],p.add q)]) x.br y.br
 | s x y=>Br.two (fun p q=>[([p.sub q],p.sub q),([q.over p],⟨0,[]⟩)]) x.br y.br
 | m k x=>Br.two (fun p _=>[([],p.mul k)]) x.br x.br
 | mn x y=>Br.two (fun p q=>[([q.sub p],p),([p.sub q],q)]) x.br y.br
 | mx x y=>Br.two (fun p q=>[([q.sub p],q),([p.sub q],p)]) x.br y.br
theorem Br.pick {r:Nat->Int} {p q u w:C} {z:Int} {s:Prop} [Decidable s] (h1:s->0<=p.ev r/\u.ev r=z) (h2:¬ s->0<=q.ev r/\w.ev r=z):Br.is r [([p],u),([q],w)] z:=by
 by_cases h:s
 ·exact ⟨_,List.mem_cons_self,fun c hc=>by rw [List.mem_singleton.mp hc];exact (h1 h).1,(h1 h).2⟩
 ·exact ⟨_,List.mem_cons_of_mem _ (List.mem_singleton.mpr rfl),fun c hc=>by rw [List.mem_singleton.mp hc];exact (h2 h).1,(h2 h).2⟩
theorem T.br_is (l:List Nat) (k:List Int) (t:T):t.br.is (L.val l k) (t.val l):=by
 induction t with
 | v i=>refine Br.one ?_;show 0+d _ _=_;rw [d_unit,Int.zero_add];unfold L.val;rw [if_pos (Nat.mul_mod_right 2 i),Nat.mul_div_cancel_left i (by decide)];rfl
 | c n=>exact Br.one (Int.add_zero _)
 | a x y hx hy=>exact Br.two_is hx hy fun p q h1 h2=>Br.one (by rw [C.ev_add,h1,h2];rfl)
 | s x y hx hy=>exact Br.two_is hx hy fun p q h1 h2=>Br.pick (s:=y.val l<=x.val l) (fun h=>by rw [C.ev_sub,h1,h2];exact ⟨Int.sub_nonneg_of_le (Int.ofNat_le.mpr h),(Int.ofNat_sub h).symm⟩) (fun h=>by rw [C.ev_over,h1,h2];have:=Nat.not_le.mp h;exact ⟨Int.sub_nonneg_of_le (show (1:Int)<=_ from Int.sub_pos_of_lt (Int.ofNat_lt.2 this)),by show (0+0:Int)=((x.val l-y.val l:Nat):Int);rw [Nat.sub_eq_zero_of_le (Nat.le_of_lt this)];rfl⟩)
 | m k x hx=>exact Br.two_is hx hx fun p q h1 h2=>Br.one (by rw [C.ev_mul,h1];rfl)
 | mn x y hx hy=>exact Br.two_is hx hy fun p q h1 h2=>Br.pick (s:=x.val l<=y.val l) (fun h=>by rw [C.ev_sub,h1,h2];exact ⟨Int.sub_nonneg_of_le (Int.ofNat_le.mpr h),congrArg Int.ofNat (Nat.min_eq_left h).symm⟩) (fun h=>by rw [C.ev_sub,h1,h2];have:=Nat.le_of_lt (Nat.not_le.mp h);exact ⟨Int.sub_nonneg_of_le (Int.ofNat_le.mpr this),congrArg Int.ofNat (Nat.min_eq_right this).symm⟩)
 | mx x y hx hy=>exact Br.two_is hx hy fun p q h1 h2=>Br.pick (s:=x.val l<=y.val l) (fun h=>by rw [C.ev_sub,h1,h2];exact ⟨Int.sub_nonneg_of_le (Int.ofNat_le.mpr h),congrArg Int.ofNat (Nat.max_eq_right h).symm⟩) (fun h=>by rw [C.ev_sub,h1,h2];have:=Nat.le_of_lt (Nat.not_le.mp h);exact ⟨Int.sub_nonneg_of_le (Int.ofNat_le.mpr this),congrArg Int.ofNat (Nat.max_eq_left this).symm⟩)
inductive Z where
 | v (i:Nat) | n (t:T) | c (n:Int) | a (x y:Z) | s (x y:Z) | g (x:Z) | m (k:Int) (x:Z)
noncomputable def Z.val (l:List Nat) (k:List Int):Z->Int
 | v i=>k.getD i 0
 | .n t=>(t.val l:Int)
 | c j=>j
 | a x y=>x.val l k+y.val l k
 | s x y=>x.val l k-y.val l k
 | g x=>- x.val l k
 | m j x=>j*x.val l k
noncomputable def Z.br:Z->Br
 | v i=>[([],⟨0,unit (2*i+1)⟩)]
 | .n t=>t.br
 | c j=>[([],⟨j,[]⟩)]
 | a x y=>Br.two (fun p q=>[([],p.add q)]) x.br y.br
 | s x y=>Br.two (fun p q=>[([],p.sub q)]) x.br y.br
 | g x=>Br.two (fun p _=>[([],p.mul (-1))]) x.br x.br
 | m k x=>Br.two (fun p _=>[([],p.mul k)]) x.br x.br
theorem Z.br_is (l:List Nat) (k:List Int) (t:Z):t.br.is (L.val l k) (t.val l k):=by
 induction t with
 | v i=>refine Br.one ?_;show 0+d _ _=_;rw [d_unit,Int.zero_add];unfold L.val;rw [if_neg (by rw [Nat.mul_add_mod];decide),show (2*i+1) / 2=i from Nat.mul_add_div (by decide) i 1];rfl
 | n t=>exact T.br_is l k t
 | c n=>exact Br.one (Int.add_zero _)
 | a x y hx hy=>exact Br.two_is hx hy fun p q h1 h2=>Br.one (by rw [C.ev_add,h1,h2];rfl)
 | s x y hx hy=>exact Br.two_is hx hy fun p q h1 h2=>Br.one (by rw [C.ev_sub,h1,h2];rfl)
 | g x hx=>exact Br.two_is hx hx fun p q h1 h2=>Br.one (by rw [C.ev_mul,h1,Int.neg_mul,Int.one_mul];rfl)
 | m k x hx=>exact Br.two_is hx hx fun p q h1 h2=>Br.one (by rw [C.ev_mul,h1];rfl)
inductive F where
 | le (x y:T) | lt (x y:T) | eq (x y:T) | zle (x y:Z) | zlt (x y:Z) | zeq (x y:Z)
 | no (f:F) | an (f g:F) | o (f g:F) | im (f g:F) | ff
noncomputable def F.holds (l:List Nat) (k:List Int):F->Prop
 | le x y=>x.val l<=y.val l
 | lt x y=>x.val l < y.val l
 | eq x y=>x.val l=y.val l
 | zle x y=>x.val l k<=y.val l k
 | zlt x y=>x.val l k < y.val l k
 | zeq x y=>x.val l k=y.val l k
 | no f=>¬ f.holds l k
 | an f g=>f.holds l k/\g.holds l k
 | o f g=>f.holds l k\/g.holds l k
 | im f g=>f.holds l k->g.holds l k
 | ff=>False
abbrev Dn:=List (List C)
def Dn.is (r:Nat->Int) (a:Dn):Prop:=∃ p∈a,∀ c∈p,0<=c.ev r
noncomputable def Br.cmp (a b:Br) (f:C->C->Dn):Dn:=a.flatMap fun p=>b.flatMap fun q=>(f p.2 q.2).map fun t=>t++(p.1++q.1)
theorem Br.cmp_is {r:Nat->Int} {f:C->C->Dn} {a b:Br} {x y:Int} (ha:a.is r x) (hb:b.is r y) (h:∀ p q:C,p.ev r=x->q.ev r=y->(f p q).is r):(Br.cmp a b f).is r:=by
 obtain ⟨p,hp,h1,h2⟩:=ha
 obtain ⟨q,hq,h3,h4⟩:=hb
 obtain ⟨t,ht,h5⟩:=h p.2 q.2 h2 h4
 refine ⟨_,List.mem_flatMap.mpr ⟨p,hp,List.mem_flatMap.mpr ⟨q,hq,List.mem_map.mpr ⟨t,ht,rfl⟩⟩⟩,fun c hc=>?_⟩
 rcases List.mem_append.mp hc with hc | hc
 ·exact h5 c hc
 ·rcases List.mem_append.mp hc with hc | hc
  ·exact h1 c hc
  ·exact h3 c hc
noncomputable def Dn.and (a b:Dn):Dn:=a.flatMap fun p=>b.map fun q=>p++q
theorem Dn.and_is {r:Nat->Int} {a b:Dn} (ha:a.is r) (hb:b.is r):(a.and b).is r:=by
 obtain ⟨p,hp,h1⟩:=ha
 obtain ⟨q,hq,h2⟩:=hb
 exact ⟨_,List.mem_flatMap.mpr ⟨p,hp,List.mem_map.mpr ⟨q,hq,rfl⟩⟩,fun c hc=>(List.mem_append.mp hc).elim (h1 c) (h2 c)⟩
theorem Dn.left {r:Nat->Int} {a b:Dn} (ha:a.is r):Dn.is r (a++b):=let ⟨p,hp,h⟩:=ha;⟨p,List.mem_append_left _ hp,h⟩
theorem Dn.right {r:Nat->Int} {a b:Dn} (hb:b.is r):Dn.is r (a++b):=let ⟨p,hp,h⟩:=hb;⟨p,List.mem_append_right _ hp,h⟩
theorem Dn.one {r:Nat->Int} {c:C} (h:0<=c.ev r):Dn.is r [[c]]:=⟨_,List.mem_singleton.mpr rfl,fun x hx=>by rw [List.mem_singleton.mp hx];exact h⟩
theorem Dn.cons {r:Nat->Int} {c:C} {p:List C} (h:0<=c.ev r) (q:Dn.is r [p]):Dn.is r [c::p]:=by
 obtain ⟨t,ht,q⟩:=q
 rw [List.mem_singleton.mp ht] at q
 exact ⟨_,List.mem_singleton.mpr rfl,fun x hx=>(List.mem_cons.mp hx).elim (fun e=>e ▸ h) (q x)⟩
noncomputable def le (b:Bool) (p q:C):Dn:=if b then [[q.sub p]] else [[p.over q]]
noncomputable def eq (b:Bool) (p q:C):Dn:=if b then [[q.sub p,p.sub q]] else [[p.over q]]++[[q.over p]]
def So (b:Bool) (s:Prop):Prop:=if b then s else ¬ s
theorem le_is {b:Bool} {r:Nat->Int} {p q:C} {x y:Int} (h:So b (x<=y)) (h1:p.ev r=x) (h2:q.ev r=y):(le b p q).is r:=by
 subst h1 h2
 cases b with
 | true=>exact Dn.one (by rw [C.ev_sub];exact Int.sub_nonneg_of_le h)
 | false=>exact Dn.one (by rw [C.ev_over];exact Int.sub_nonneg_of_le (Int.le_sub_left_of_add_le (Int.not_le.mp h)))
theorem lt_is {b:Bool} {r:Nat->Int} {p q:C} {x y:Int} (h:So b (x < y)) (h1:p.ev r=x) (h2:q.ev r=y):(le (!b) q p).is r:=by
 cases b with
 | true=>exact le_is (b:=false) (Int.not_le.mpr h) h2 h1
 | false=>exact le_is (b:=true) (Int.not_lt.mp h) h2 h1
theorem eq_is {b:Bool} {r:Nat->Int} {p q:C} {x y:Int} (h:So b (x=y)) (h1:p.ev r=x) (h2:q.ev r=y):(eq b p q).is r:=by
 cases b with
 | true=>exact Dn.cons (by rw [C.ev_sub,h1,h2];exact Int.sub_nonneg_of_le (Int.le_of_eq h)) (Dn.one (by rw [C.ev_sub,h1,h2];exact Int.sub_nonneg_of_le (Int.le_of_eq (Eq.symm h))))
 | false=>
  rcases Int.lt_or_gt_of_ne h with q | q
  ·exact Dn.right (le_is (b:=false) (Int.not_le.mpr q) h2 h1)
  ·exact Dn.left (le_is (b:=false) (Int.not_le.mpr q) h1 h2)
noncomputable def F.br:F->Bool->Dn
 | le x y,b=>x.br.cmp y.br (L.le b)
 | lt x y,b=>x.br.cmp y.br fun p q=>L.le (!b) q p
 | eq x y,b=>x.br.cmp y.br (L.eq b)
 | zle x y,b=>x.br.cmp y.br (L.le b)
 | zlt x y,b=>x.br.cmp y.br fun p q=>L.le (!b) q p
 | zeq x y,b=>x.br.cmp y.br (L.eq b)
 | no f,b=>f.br (!b)
 | an f g,b=>if b then (f.br b).and (g.br b) else f.br b++g.br b
 | o f g,b=>if b then f.br b++g.br b else (f.br b).and (g.br b)
 | im f g,b=>if b then f.br (!b)++g.br b else (f.br (!b)).and (g.br b)
 | ff,b=>if b then [] else [[]]
theorem So.of {b:Bool} {s t:Prop} (e:s↔t) (h:So b s):So b t:=by
 cases b with
 | true=>exact e.mp h
 | false=>exact fun q=>h (e.mpr q)
theorem So.not {b:Bool} {s:Prop} (h:So b (¬ s)):So (!b) s:=by
 cases b with
 | true=>exact h
 | false=>exact Classical.not_not.mp h
theorem F.br_is (l:List Nat) (k:List Int) (f:F):∀ b,So b (f.holds l k)->(f.br b).is (L.val l k):=by
 induction f with
 | le x y=>exact fun b h=>Br.cmp_is (T.br_is l k x) (T.br_is l k y) fun p q=>le_is (So.of Int.ofNat_le.symm h)
 | lt x y=>exact fun b h=>Br.cmp_is (T.br_is l k x) (T.br_is l k y) fun p q=>lt_is (So.of Int.ofNat_lt.symm h)
 | eq x y=>exact fun b h=>Br.cmp_is (T.br_is l k x) (T.br_is l k y) fun p q=>eq_is (So.of Int.ofNat_inj.symm h)
 | zle x y=>exact fun b h=>Br.cmp_is (Z.br_is l k x) (Z.br_is l k y) fun p q=>le_is h
 | zlt x y=>exact fun b h=>Br.cmp_is (Z.br_is l k x) (Z.br_is l k y) fun p q=>lt_is h
 | zeq x y=>exact fun b h=>Br.cmp_is (Z.br_is l k x) (Z.br_is l k y) fun p q=>eq_is h
 | no f hf=>exact fun b h=>hf _ (So.not h)
 | an f g hf hg=>
  intro b h
  cases b with
  | true=>exact Dn.and_is (hf true h.1) (hg true h.2)
  | false=>
   rcases Classical.not_and_iff_not_or_not.mp h with h | h
   ·exact Dn.left (hf false h)
   ·exact Dn.right (hg false h)
 | o f g hf hg=>
  intro b h
  cases b with
  | true=>exact h.elim (fun h=>Dn.left (hf true h)) fun h=>Dn.right (hg true h)
  | false=>exact Dn.and_is (hf false fun q=>h (.inl q)) (hg false fun q=>h (.inr q))
 | im f g hf hg=>
  intro b h
  cases b with
  | true=>
   by_cases q:f.holds l k
   ·exact Dn.right (hg true (h q))
   ·exact Dn.left (hf false q)
  | false=>exact Dn.and_is (hf true (Classical.not_not.mp fun q=>h fun z=>absurd z q)) (hg false fun q=>h fun _=>q)
 | ff=>
  intro b h
  cases b with
  | true=>exact absurd h id
  | false=>exact ⟨_,List.mem_singleton.mpr rfl,fun c hc=>by cases hc⟩
noncomputable def pos:Nat->List C
 | 0=>[]
 | n+1=>⟨0,unit (2*n)⟩::pos n
theorem pos_ok (l:List Nat) (k:List Int) (n:Nat):∀ c∈pos n,0<=c.ev (val l k):=by
 induction n with
 | zero=>exact fun c hc=>by cases hc
 | succ n ih=>
  intro c hc
  rcases List.mem_cons.mp hc with rfl | hc
  ·show 0<=0+d _ _
   rw [d_unit,Int.zero_add];unfold val;rw [if_pos (Nat.mul_mod_right 2 n)]
   exact Int.natCast_nonneg _
  ·exact ih c hc
theorem run (f:F) (n:Nat) (e:((f.br false).all fun p=>refute (2*n) (pos n++p))=true) (l:List Nat) (k:List Int):f.holds l k:=
 Classical.not_not.mp fun h=>by
  obtain ⟨p,hp,h⟩:=F.br_is l k f false h
  exact refute_ok (List.all_eq_true.mp e p hp) fun c hc=>(List.mem_append.mp hc).elim (pos_ok l k n c) (h c)
end Mine.Internal.L
abbrev Mine.Internal.LH (l:List Nat) (k:List Int) (f:Mine.Internal.L.F):Prop:=f.holds l k
end
section
namespace Mine.Internal
variable {a0 a1 a2 a3 a4 a5:Nat} {z0 z1 z2:Int}
theorem o1:((a0+1)+a1)=((a0+a1)+1):=L.run (.eq (.a (.a (.v 0) (.c 1)) (.v 1)) (.a (.a (.v 0) (.v 1)) (.c 1))) 2 rfl [a0,a1] []
theorem o2:((a0+1)<=a0)->False:=L.run (.im (.le (.a (.v 0) (.c 1)) (.v 0)) .ff) 1 rfl [a0] []
theorem o3:LH [a0,a1] [] (.im (.le (.v 0) (.s (.v 1) (.c 1))) (.im (.lt (.c 0) (.v 1)) (.le (.a (.v 0) (.c 1)) (.v 1)))):=L.run _ 2 rfl _ _
theorem o4:LH [a0,a1] [] (.im (.le (.v 0) (.v 1)) (.eq (.a (.s (.v 1) (.v 0)) (.v 0)) (.v 1))):=L.run _ 2 rfl _ _
theorem o5:LH [a0,a1] [] (.im (.lt (.v 0) (.v 1)) (.lt (.c 0) (.s (.v 1) (.v 0)))):=L.run _ 2 rfl _ _
theorem o6:LH [a0,a1] [] (.im (.lt (.v 0) (.v 1)) (.eq (.v 1) (.a (.v 0) (.s (.v 1) (.v 0))))):=L.run _ 2 rfl _ _
theorem o7:LH [a0,a1] [] (.im (.lt (.v 0) (.a (.c 0) (.v 1))) (.im (.le (.v 1) (.v 0)) .ff)):=L.run _ 2 rfl _ _
theorem o8:LH [a0,a1,a2] [] (.im (.lt (.v 0) (.a (.a (.v 1) (.c 1)) (.v 2))) (.lt (.v 0) (.a (.v 1) (.a (.v 2) (.c 1))))):=L.run _ 3 rfl _ _
theorem o9:LH [a0,a1] [] (.im (.le (.v 0) (.v 1)) (.im (.lt (.v 1) (.a (.v 0) (.c 0))) .ff)):=L.run _ 2 rfl _ _
theorem o10:LH [a0] [] (.le (.v 0) (.v 0)):=L.run _ 1 rfl _ _
theorem o11:LH [a0,a1] [] (.im (.lt (.v 0) (.v 1)) (.eq (.s (.v 1) (.v 0)) (.a (.s (.s (.v 1) (.v 0)) (.c 1)) (.c 1)))):=L.run _ 2 rfl _ _
theorem o12:(a0 < a1)->(a1-a0)=((a1-(a0+1))+1):=L.run (.im (.lt (.v 0) (.v 1)) (.eq (.s (.v 1) (.v 0)) (.a (.s (.v 1) (.a (.v 0) (.c 1))) (.c 1)))) 2 rfl [a0,a1] []
theorem o13:LH [a0,a1] [] (.lt (.v 0) (.a (.v 0) (.a (.v 1) (.c 1)))):=L.run _ 2 rfl _ _
theorem o14:LH [a0,a1] [] (.im (.le (.a (.v 0) (.c 1)) (.v 1)) (.le (.v 0) (.v 1))):=L.run _ 2 rfl _ _
theorem o15:LH [a0,a1,a2] [] (.im (.le (.v 0) (.v 1)) (.im (.lt (.v 2) (.a (.v 0) (.s (.v 1) (.v 0)))) (.lt (.v 2) (.v 1)))):=L.run _ 3 rfl _ _
theorem o16:LH [a0,a1] [] (.im (.le (.v 0) (.v 1)) (.im (.no (.eq (.v 1) (.v 0))) (.le (.a (.v 0) (.c 1)) (.v 1)))):=L.run _ 2 rfl _ _
theorem o17:LH [a0,a1,a2] [] (.im (.lt (.v 0) (.a (.v 1) (.a (.v 2) (.c 1)))) (.lt (.v 0) (.a (.a (.v 1) (.c 1)) (.v 2)))):=L.run _ 3 rfl _ _
theorem o18:LH [a0,a1] [] (.im (.lt (.v 0) (.a (.c 0) (.v 1))) (.lt (.v 0) (.v 1))):=L.run _ 2 rfl _ _
theorem o19:LH [a0] [] (.le (.c 0) (.v 0)):=L.run _ 1 rfl _ _
theorem o20:LH [a0,a1] [] (.im (.lt (.v 0) (.v 1)) (.lt (.v 0) (.a (.c 0) (.v 1)))):=L.run _ 2 rfl _ _
theorem o21:(a0<=a1)->(a0+(a1-a0))=a1:=L.run (.im (.le (.v 0) (.v 1)) (.eq (.a (.v 0) (.s (.v 1) (.v 0))) (.v 1))) 2 rfl [a0,a1] []
theorem o22:LH [a0,a1] [] (.eq (.a (.a (.v 0) (.c 1)) (.v 1)) (.a (.v 0) (.a (.v 1) (.c 1)))):=L.run _ 2 rfl _ _
theorem o23:LH [a0] [] (.no (.eq (.a (.v 0) (.c 1)) (.c 0))):=L.run _ 1 rfl _ _
theorem o24:LH [a0,a1] [] (.im (.lt (.a (.v 0) (.c 1)) (.v 1)) (.no (.eq (.a (.v 0) (.c 1)) (.v 1)))):=L.run _ 2 rfl _ _
theorem o25:LH [a0,a1] [] (.im (.lt (.v 0) (.v 1)) (.no (.eq (.v 0) (.v 1)))):=L.run _ 2 rfl _ _
theorem o26:LH [a0] [] (.im (.eq (.c 1) (.v 0)) (.im (.le (.c 2) (.v 0)) .ff)):=L.run _ 1 rfl _ _
theorem o27:LH [] [] (.no (.eq (.c 1) (.c 0))):=L.run _ 0 rfl _ _
theorem o28:LH [a0] [] (.le (.a (.v 0) (.c 1)) (.a (.v 0) (.c 1))):=L.run _ 1 rfl _ _
theorem o29:LH [a0,a1] [] (.im (.no (.eq (.v 0) (.c 0))) (.im (.lt (.v 0) (.v 1)) (.lt (.a (.s (.v 0) (.c 1)) (.c 1)) (.v 1)))):=L.run _ 2 rfl _ _
theorem o30:LH [a0] [] (.im (.lt (.c 0) (.v 0)) (.im (.no (.eq (.c 1) (.v 0))) (.lt (.c 1) (.v 0)))):=L.run _ 1 rfl _ _
theorem o31:LH [a0,a1] [] (.im (.lt (.v 0) (.v 1)) (.im (.le (.c 2) (.v 1)) (.lt (.a (.s (.v 0) (.c 1)) (.c 1)) (.v 1)))):=L.run _ 2 rfl _ _
theorem o32:LH [a0,a1] [] (.im (.le (.v 0) (.v 1)) (.im (.no (.eq (.v 0) (.v 1))) (.lt (.v 0) (.v 1)))):=L.run _ 2 rfl _ _
theorem o33:LH [a0,a1] [] (.im (.lt (.v 0) (.v 1)) (.le (.v 0) (.a (.v 1) (.c 1)))):=L.run _ 2 rfl _ _
theorem o34:LH [a0,a1] [] (.im (.eq (.v 0) (.v 1)) (.im (.lt (.v 1) (.v 0)) .ff)):=L.run _ 2 rfl _ _
theorem o35:LH [a0,a1] [] (.im (.o (.eq (.v 0) (.v 1)) (.eq (.a (.v 0) (.c 1)) (.v 1))) (.im (.no (.eq (.v 0) (.v 1))) (.eq (.a (.v 0) (.c 1)) (.v 1)))):=L.run _ 2 rfl _ _
theorem o36:LH [a0,a1] [] (.im (.lt (.v 0) (.v 1)) (.no (.eq (.v 1) (.c 0)))):=L.run _ 2 rfl _ _
theorem o37:LH [a0,a1] [] (.im (.no (.eq (.v 0) (.c 0))) (.im (.eq (.v 1) (.s (.v 0) (.c 1))) (.eq (.a (.v 1) (.c 1)) (.v 0)))):=L.run _ 2 rfl _ _
theorem o38:LH [a0,a1,a2] [] (.im (.o (.eq (.v 0) (.v 1)) (.eq (.v 0) (.a (.v 1) (.c 1)))) (.im (.no (.eq (.v 2) (.v 1))) (.im (.no (.eq (.a (.v 2) (.c 1)) (.v 1))) (.no (.eq (.a (.v 2) (.c 1)) (.v 0)))))):=L.run _ 3 rfl _ _
theorem o39:LH [a0,a1] [] (.im (.eq (.v 0) (.s (.v 1) (.c 1))) (.o (.eq (.v 0) (.v 1)) (.eq (.a (.v 0) (.c 1)) (.v 1)))):=L.run _ 2 rfl _ _
theorem o40:LH [a0,a1,a2] [] (.im (.eq (.v 0) (.v 1)) (.im (.lt (.v 0) (.v 2)) (.im (.eq (.v 1) (.a (.v 2) (.c 1))) .ff))):=L.run _ 3 rfl _ _
theorem o41:LH [a0,a1] [] (.im (.lt (.v 0) (.v 1)) (.im (.no (.eq (.a (.v 0) (.c 1)) (.v 1))) (.lt (.a (.v 0) (.c 1)) (.v 1)))):=L.run _ 2 rfl _ _
theorem o42:LH [a0,a1] [] (.im (.eq (.a (.v 0) (.c 1)) (.v 1)) (.im (.eq (.a (.v 0) (.c 1)) (.a (.v 1) (.c 1))) .ff)):=L.run _ 2 rfl _ _
theorem o43:LH [a0,a1] [] (.im (.le (.v 0) (.v 1)) (.no (.lt (.v 1) (.v 0)))):=L.run _ 2 rfl _ _
theorem o44:LH [a0,a1] [] (.im (.lt (.v 0) (.v 1)) (.lt (.v 0) (.a (.v 1) (.c 2)))):=L.run _ 2 rfl _ _
theorem o45:LH [a0,a1] [] (.im (.lt (.a (.v 0) (.c 1)) (.v 1)) (.lt (.a (.v 0) (.c 0)) (.v 1))):=L.run _ 2 rfl _ _
theorem o46:LH [a0,a1] [] (.im (.lt (.a (.v 0) (.c 1)) (.v 1)) (.lt (.a (.v 0) (.c 1)) (.v 1))):=L.run _ 2 rfl _ _
theorem o47:LH [a0,a1] [] (.im (.lt (.v 0) (.v 1)) (.lt (.v 0) (.a (.v 1) (.c 1)))):=L.run _ 2 rfl _ _
theorem o48:LH [a0] [] (.im (.le (.c 2) (.v 0)) (.lt (.a (.c 0) (.c 1)) (.v 0))):=L.run _ 1 rfl _ _
theorem o49:LH [a0,a1] [] (.im (.eq (.v 0) (.v 1)) (.lt (.v 0) (.a (.v 1) (.c 1)))):=L.run _ 2 rfl _ _
theorem o50:LH [a0] [] (.no (.eq (.a (.v 0) (.c 1)) (.a (.a (.v 0) (.c 1)) (.c 1)))):=L.run _ 1 rfl _ _
theorem o51:LH [a0,a1] [] (.im (.lt (.v 0) (.v 1)) (.im (.no (.lt (.a (.v 0) (.c 1)) (.v 1))) (.eq (.a (.v 0) (.c 1)) (.v 1)))):=L.run _ 2 rfl _ _
theorem o52:LH [a0,a1] [] (.im (.lt (.v 0) (.a (.v 1) (.c 2))) (.lt (.v 0) (.a (.v 1) (.c 2)))):=L.run _ 2 rfl _ _
theorem o53:(a0<=a1)->a0<=(a1+1):=L.run (.im (.le (.v 0) (.v 1)) (.le (.v 0) (.a (.v 1) (.c 1)))) 2 rfl [a0,a1] []
theorem o54:(a0<=a1)->(a1 < (a0+1))->a1=a0:=L.run (.im (.le (.v 0) (.v 1)) (.im (.lt (.v 1) (.a (.v 0) (.c 1))) (.eq (.v 1) (.v 0)))) 2 rfl [a0,a1] []
theorem o55:(a0<=a1)->a0<=a1:=L.run (.im (.le (.v 0) (.v 1)) (.le (.v 0) (.v 1))) 2 rfl [a0,a1] []
theorem o56:LH [a0] [] (.im (.lt (.c 0) (.v 0)) (.eq (.v 0) (.a (.s (.v 0) (.c 1)) (.c 1)))):=L.run _ 1 rfl _ _
theorem o57:LH [a0,a1] [] (.im (.lt (.v 0) (.a (.v 1) (.c 1))) (.lt (.v 0) (.a (.v 1) (.c 2)))):=L.run _ 2 rfl _ _
theorem o58:LH [a0,a1] [] (.im (.lt (.v 0) (.a (.v 1) (.c 2))) (.im (.le (.v 1) (.v 0)) (.im (.no (.eq (.v 0) (.v 1))) (.eq (.v 0) (.a (.v 1) (.c 1)))))):=L.run _ 2 rfl _ _
theorem o59:LH [a0] [] (.no (.lt (.v 0) (.v 0))):=L.run _ 1 rfl _ _
theorem o60:LH [a0] [] (.le (.v 0) (.a (.v 0) (.c 1))):=L.run _ 1 rfl _ _
theorem o61:LH [a0] [] (.no (.eq (.a (.v 0) (.c 1)) (.v 0))):=L.run _ 1 rfl _ _
theorem o62:LH [a0,a1] [] (.im (.no (.lt (.v 0) (.v 1))) (.le (.v 1) (.v 0))):=L.run _ 2 rfl _ _
theorem o63:LH [a0,a1] [] (.im (.lt (.v 0) (.v 1)) (.le (.v 0) (.v 1))):=L.run _ 2 rfl _ _
theorem o64:LH [a0,a1] [] (.im (.eq (.a (.v 0) (.c 1)) (.v 1)) (.eq (.v 0) (.s (.v 1) (.c 1)))):=L.run _ 2 rfl _ _
theorem o65:LH [a0,a1] [] (.im (.lt (.v 0) (.v 1)) (.le (.a (.v 0) (.c 1)) (.v 1))):=L.run _ 2 rfl _ _
theorem o66:LH [a0,a1] [] (.im (.le (.v 0) (.a (.v 1) (.c 1))) (.lt (.v 0) (.a (.v 1) (.c 2)))):=L.run _ 2 rfl _ _
theorem o67:LH [a0,a1] [] (.im (.lt (.v 0) (.a (.v 1) (.c 2))) (.im (.no (.lt (.v 0) (.v 1))) (.im (.no (.eq (.v 0) (.v 1))) (.eq (.v 0) (.a (.v 1) (.c 1)))))):=L.run _ 2 rfl _ _
theorem o68:LH [a0] [] (.no (.lt (.a (.v 0) (.c 1)) (.v 0))):=L.run _ 1 rfl _ _
theorem o69:LH [a0,a1,a2] [] (.im (.eq (.a (.v 0) (.c 1)) (.v 1)) (.im (.lt (.a (.v 2) (.c 1)) (.v 1)) (.no (.eq (.v 2) (.v 0))))):=L.run _ 3 rfl _ _
theorem o70:LH [a0,a1] [] (.im (.lt (.v 0) (.a (.v 1) (.c 2))) (.le (.v 0) (.a (.v 1) (.c 1)))):=L.run _ 2 rfl _ _
theorem o71:LH [a0] [] (.eq (.a (.m 2 (.v 0)) (.c 2)) (.m 2 (.a (.v 0) (.c 1)))):=L.run _ 1 rfl _ _
theorem o72:LH [a0] [] (.im (.le (.c 2) (.v 0)) (.lt (.a (.s (.v 0) (.c 2)) (.c 1)) (.v 0))):=L.run _ 1 rfl _ _
theorem o73:LH [a0,a1] [] (.im (.le (.v 0) (.a (.v 1) (.c 1))) (.im (.le (.a (.v 1) (.c 1)) (.v 0)) (.eq (.v 0) (.a (.v 1) (.c 1))))):=L.run _ 2 rfl _ _
theorem o74:LH [a0,a1] [] (.im (.lt (.v 0) (.v 1)) (.im (.eq (.v 1) (.v 0)) .ff)):=L.run _ 2 rfl _ _
theorem o75:LH [a0,a1] [] (.im (.eq (.a (.v 0) (.c 1)) (.v 1)) (.eq (.v 1) (.a (.v 0) (.c 1)))):=L.run _ 2 rfl _ _
theorem o76:LH [a0,a1,a2] [] (.im (.le (.v 0) (.v 1)) (.im (.le (.m 2 (.v 2)) (.v 0)) (.im (.eq (.v 1) (.m 2 (.v 2))) (.eq (.v 0) (.m 2 (.v 2)))))):=L.run _ 3 rfl _ _
theorem o77:LH [a0] [] (.im (.le (.c 2) (.v 0)) (.eq (.a (.a (.s (.v 0) (.c 2)) (.c 1)) (.c 1)) (.v 0))):=L.run _ 1 rfl _ _
theorem o78:LH [a0,a1] [] (.im (.eq (.a (.v 0) (.c 1)) (.a (.v 1) (.c 1))) (.eq (.v 1) (.v 0))):=L.run _ 2 rfl _ _
theorem o79:LH [a0] [] (.im (.le (.c 2) (.v 0)) (.no (.eq (.v 0) (.c 0)))):=L.run _ 1 rfl _ _
theorem o80:LH [a0,a1] [] (.im (.le (.v 0) (.a (.v 1) (.c 1))) (.im (.no (.lt (.v 0) (.v 1))) (.im (.no (.eq (.v 0) (.v 1))) (.eq (.a (.v 1) (.c 1)) (.v 0))))):=L.run _ 2 rfl _ _
theorem o81:LH [a0,a1,a2] [] (.im (.lt (.v 0) (.s (.v 1) (.v 2))) (.lt (.v 0) (.s (.v 1) (.v 2)))):=L.run _ 3 rfl _ _
theorem o82:LH [a0,a1,a2] [] (.im (.lt (.v 0) (.s (.v 1) (.v 2))) (.lt (.a (.v 0) (.v 2)) (.v 1))):=L.run _ 3 rfl _ _
theorem o83:LH [a0,a1,a2] [] (.im (.no (.lt (.v 0) (.s (.v 1) (.v 2)))) (.le (.v 1) (.a (.v 0) (.v 2)))):=L.run _ 3 rfl _ _
theorem o84:LH [a0,a1] [] (.eq (.a (.s (.v 0) (.v 1)) (.mn (.v 1) (.v 0))) (.v 0)):=L.run _ 2 rfl _ _
theorem o85:LH [a0,a1] [] (.im (.lt (.a (.v 0) (.c 1)) (.v 1)) (.lt (.v 0) (.v 1))):=L.run _ 2 rfl _ _
theorem o86:LH [a0,a1] [] (.im (.eq (.v 0) (.a (.v 1) (.c 0))) (.le (.v 0) (.v 1))):=L.run _ 2 rfl _ _
theorem o87:LH [a0,a1,a2] [] (.im (.lt (.v 0) (.v 1)) (.im (.no (.lt (.v 0) (.s (.v 1) (.v 2)))) (.lt (.s (.v 0) (.s (.v 1) (.v 2))) (.v 2)))):=L.run _ 3 rfl _ _
theorem o88:LH [a0,a1] [] (.im (.lt (.v 0) (.v 1)) (.lt (.v 0) (.v 1))):=L.run _ 2 rfl _ _
theorem o89:LH [a0] [] (.eq (.v 0) (.a (.c 0) (.v 0))):=L.run _ 1 rfl _ _
theorem o90:LH [a0,a1,a2] [] (.im (.eq (.v 0) (.v 1)) (.im (.eq (.v 2) (.v 1)) (.eq (.v 0) (.v 2)))):=L.run _ 3 rfl _ _
theorem o91:LH [a0,a1,a2] [] (.im (.eq (.a (.v 0) (.c 1)) (.v 0)) (.eq (.v 1) (.v 2))):=L.run _ 3 rfl _ _
theorem o92:LH [a0,a1,a2] [] (.im (.le (.v 0) (.v 1)) (.im (.lt (.v 2) (.v 1)) (.lt (.s (.a (.v 2) (.v 0)) (.v 1)) (.v 1)))):=L.run _ 3 rfl _ _
theorem o93:LH [a0,a1,a2] [] (.im (.no (.eq (.v 0) (.a (.v 1) (.c 1)))) (.im (.eq (.a (.v 1) (.c 1)) (.v 0)) (.eq (.v 2) (.v 0)))):=L.run _ 3 rfl _ _
theorem o94:LH [a0,a1,a2] [] (.im (.eq (.v 0) (.a (.v 0) (.c 1))) (.eq (.v 1) (.v 2))):=L.run _ 3 rfl _ _
theorem o95:LH [a0,a1] [] (.im (.no (.lt (.a (.v 0) (.c 1)) (.v 1))) (.le (.v 1) (.a (.v 0) (.c 1)))):=L.run _ 2 rfl _ _
theorem o96:LH [a0,a1] [] (.im (.eq (.v 0) (.a (.v 1) (.c 0))) (.eq (.v 1) (.v 0))):=L.run _ 2 rfl _ _
theorem o97:LH [a0,a1,a2] [] (.im (.eq (.v 0) (.a (.v 1) (.c 1))) (.im (.eq (.v 2) (.a (.v 1) (.c 1))) (.eq (.v 0) (.v 2)))):=L.run _ 3 rfl _ _
theorem o98:LH [a0,a1,a2] [] (.im (.eq (.v 0) (.a (.v 1) (.a (.v 2) (.c 1)))) (.lt (.v 1) (.v 0))):=L.run _ 3 rfl _ _
theorem o99:LH [a0,a1] [] (.im (.eq (.v 0) (.v 1)) (.eq (.v 0) (.a (.v 1) (.c 0)))):=L.run _ 2 rfl _ _
theorem o100:LH [a0,a1,a2] [] (.im (.no (.eq (.v 0) (.v 1))) (.im (.eq (.v 1) (.v 0)) (.eq (.v 2) (.v 0)))):=L.run _ 3 rfl _ _
theorem o101:LH [a0] [] (.lt (.c 0) (.a (.v 0) (.c 1))):=L.run _ 1 rfl _ _
theorem o102:LH [a0,a1,a2] [] (.im (.eq (.v 0) (.a (.v 1) (.a (.v 2) (.c 1)))) (.eq (.v 0) (.a (.a (.v 1) (.c 1)) (.v 2)))):=L.run _ 3 rfl _ _
theorem o103:LH [a0,a1] [] (.im (.eq (.v 0) (.v 1)) (.eq (.v 0) (.v 1))):=L.run _ 2 rfl _ _
theorem o104:LH [a0,a1] [] (.im (.lt (.v 0) (.v 1)) (.lt (.a (.v 0) (.c 1)) (.a (.v 1) (.c 1)))):=L.run _ 2 rfl _ _
theorem o105:LH [a0,a1,a2] [] (.im (.no (.eq (.v 0) (.a (.v 1) (.c 1)))) (.im (.eq (.v 0) (.a (.v 1) (.c 1))) (.eq (.v 0) (.v 2)))):=L.run _ 3 rfl _ _
theorem o106:LH [a0,a1,a2] [] (.im (.le (.v 0) (.v 1)) (.eq (.s (.v 2) (.s (.v 1) (.v 0))) (.s (.a (.v 2) (.v 0)) (.v 1)))):=L.run _ 3 rfl _ _
theorem o107:LH [a0,a1] [] (.im (.lt (.a (.v 0) (.c 1)) (.a (.v 1) (.c 1))) (.lt (.v 0) (.v 1))):=L.run _ 2 rfl _ _
theorem o108:LH [a0,a1,a2] [] (.im (.no (.eq (.v 0) (.v 1))) (.im (.eq (.v 0) (.v 1)) (.eq (.v 0) (.v 2)))):=L.run _ 3 rfl _ _
theorem o109:LH [a0,a1,a2] [] (.im (.eq (.v 0) (.a (.a (.v 1) (.c 1)) (.v 2))) (.eq (.v 0) (.a (.v 1) (.a (.v 2) (.c 1))))):=L.run _ 3 rfl _ _
theorem o110:LH [a0,a1] [] (.im (.eq (.v 0) (.v 1)) (.im (.le (.a (.v 0) (.c 1)) (.v 1)) .ff)):=L.run _ 2 rfl _ _
theorem o111:LH [a0,a1,a2,a3] [] (.im (.eq (.v 0) (.a (.a (.v 1) (.c 1)) (.v 2))) (.im (.eq (.v 3) (.v 1)) (.im (.eq (.v 3) (.v 0)) .ff))):=L.run _ 4 rfl _ _
theorem o112:LH [a0] [] (.im (.le (.c 2) (.v 0)) (.lt (.c 0) (.v 0))):=L.run _ 1 rfl _ _
theorem o113:LH [a0,a1,a2] [] (.im (.le (.v 0) (.v 1)) (.im (.no (.eq (.v 1) (.v 2))) (.im (.eq (.v 0) (.v 2)) (.le (.a (.v 2) (.c 1)) (.v 1))))):=L.run _ 3 rfl _ _
theorem o114:LH [a0,a1] [] (.im (.no (.eq (.v 0) (.v 1))) (.no (.eq (.v 1) (.v 0)))):=L.run _ 2 rfl _ _
theorem o115:LH [a0,a1,a2] [] (.im (.eq (.v 0) (.v 1)) (.im (.lt (.a (.v 2) (.c 1)) (.v 1)) (.lt (.a (.v 2) (.c 1)) (.v 0)))):=L.run _ 3 rfl _ _
theorem o116:LH [a0,a1,a2] [] (.im (.le (.v 0) (.v 1)) (.im (.eq (.v 0) (.a (.v 2) (.c 1))) (.le (.v 2) (.v 1)))):=L.run _ 3 rfl _ _
theorem o117:LH [a0,a1,a2] [] (.im (.lt (.v 0) (.v 1)) (.im (.lt (.v 1) (.v 2)) (.lt (.v 0) (.v 2)))):=L.run _ 3 rfl _ _
theorem o118:LH [a0,a1,a2] [] (.im (.eq (.v 0) (.a (.c 0) (.v 1))) (.im (.eq (.v 0) (.a (.c 0) (.v 2))) (.eq (.v 1) (.v 2)))):=L.run _ 3 rfl _ _
theorem o119:LH [a0,a1] [] (.im (.eq (.v 0) (.a (.v 1) (.c 0))) (.eq (.v 0) (.v 1))):=L.run _ 2 rfl _ _
theorem o120:LH [a0,a1] [] (.im (.eq (.v 0) (.a (.v 1) (.c 1))) (.no (.eq (.v 0) (.v 1)))):=L.run _ 2 rfl _ _
theorem o121:LH [a0,a1] [] (.im (.no (.eq (.v 0) (.a (.v 1) (.c 1)))) (.no (.eq (.a (.v 1) (.c 1)) (.v 0)))):=L.run _ 2 rfl _ _
theorem o122:LH [a0,a1] [] (.le (.mn (.v 0) (.v 1)) (.a (.v 0) (.c 1))):=L.run _ 2 rfl _ _
theorem o123:LH [a0,a1] [] (.im (.lt (.a (.v 0) (.c 1)) (.v 1)) (.eq (.a (.mn (.v 0) (.v 1)) (.a (.a (.s (.v 1) (.a (.v 0) (.c 2))) (.c 1)) (.c 1))) (.v 1))):=L.run _ 2 rfl _ _
theorem o124:LH [a0,a1] [] (.im (.lt (.a (.v 0) (.c 1)) (.v 1)) (.eq (.mn (.v 0) (.v 1)) (.v 0))):=L.run _ 2 rfl _ _
theorem o125:LH [a0,a1] [] (.im (.eq (.v 0) (.a (.v 1) (.c 1))) (.im (.le (.v 0) (.v 1)) .ff)):=L.run _ 2 rfl _ _
theorem o126:LH [a0,a1] [] (.im (.lt (.v 0) (.s (.v 1) (.c 1))) (.lt (.a (.v 0) (.c 1)) (.v 1))):=L.run _ 2 rfl _ _
theorem o127:LH [a0,a1] [] (.le (.mn (.v 0) (.v 1)) (.v 0)):=L.run _ 2 rfl _ _
theorem o128:LH [a0,a1,a2] [] (.im (.eq (.v 0) (.a (.c 0) (.v 1))) (.im (.lt (.v 1) (.v 2)) (.lt (.v 0) (.v 2)))):=L.run _ 3 rfl _ _
theorem o129:LH [a0,a1,a2] [] (.im (.lt (.a (.v 0) (.c 1)) (.v 1)) (.im (.lt (.v 2) (.v 0)) (.lt (.v 2) (.mn (.v 0) (.v 1))))):=L.run _ 3 rfl _ _
theorem o130:LH [a0,a1,a2] [] (.im (.no (.eq (.v 0) (.v 1))) (.im (.no (.eq (.v 0) (.a (.v 1) (.c 1)))) (.im (.no (.lt (.v 0) (.v 1))) (.le (.a (.mn (.v 1) (.v 2)) (.c 2)) (.v 0))))):=L.run _ 3 rfl _ _
theorem o131:LH [a0,a1,a2] [] (.im (.lt (.a (.v 0) (.c 1)) (.v 1)) (.im (.no (.eq (.v 2) (.v 0))) (.im (.no (.eq (.v 2) (.a (.v 0) (.c 1)))) (.im (.no (.lt (.v 2) (.v 0))) (.eq (.a (.a (.v 0) (.c 2)) (.s (.v 2) (.a (.mn (.v 0) (.v 1)) (.c 2)))) (.v 2)))))):=L.run _ 3 rfl _ _
theorem o132:LH [a0,a1] [] (.im (.lt (.v 0) (.c 5)) (.im (.lt (.a (.v 1) (.c 1)) (.v 0)) (.lt (.v 1) (.c 4)))):=L.run _ 2 rfl _ _
theorem o133:LH [a0] [] (.no (.zeq (.a (.n (.v 0)) (.c 1)) (.c 0))):=L.run _ 1 rfl _ _
theorem o134:LH [a0] [] (.no (.zeq (.g (.a (.n (.v 0)) (.c 1))) (.c 0))):=L.run _ 1 rfl _ _
theorem o135:LH [a0] [] (.im (.zlt (.a (.n (.v 0)) (.c 1)) (.c 0)) (.zeq (.g (.a (.n (.v 0)) (.c 1))) (.a (.n (.v 0)) (.c 1)))):=L.run _ 1 rfl _ _
theorem o136:LH [a0] [] (.no (.zlt (.a (.n (.v 0)) (.c 1)) (.c 0))):=L.run _ 1 rfl _ _
theorem o137:LH [a0] [] (.zeq (.a (.n (.v 0)) (.c 1)) (.a (.n (.v 0)) (.c 1))):=L.run _ 1 rfl _ _
theorem o138:LH [a0,a1] [] (.im (.zeq (.a (.n (.v 0)) (.c 1)) (.a (.n (.v 1)) (.c 1))) (.eq (.v 1) (.v 0))):=L.run _ 2 rfl _ _
theorem o139:LH [a0] [] (.zlt (.g (.a (.n (.v 0)) (.c 1))) (.c 0)):=L.run _ 1 rfl _ _
theorem o140:LH [a0] [] (.zeq (.g (.g (.a (.n (.v 0)) (.c 1)))) (.a (.n (.v 0)) (.c 1))):=L.run _ 1 rfl _ _
theorem o141:LH [a0] [] (.im (.no (.zlt (.g (.a (.n (.v 0)) (.c 1))) (.c 0))) (.zeq (.g (.a (.n (.v 0)) (.c 1))) (.a (.n (.v 0)) (.c 1)))):=L.run _ 1 rfl _ _
theorem o142:LH [a0] [z0,z1,z2] (.im (.o (.an (.zeq (.v 0) (.a (.n (.v 0)) (.c 1))) (.zeq (.v 1) (.c 1))) (.an (.zeq (.v 0) (.g (.a (.n (.v 0)) (.c 1)))) (.zeq (.v 1) (.c (-1))))) (.im (.o (.an (.zeq (.v 0) (.a (.n (.v 0)) (.c 1))) (.zeq (.v 2) (.c 1))) (.an (.zeq (.v 0) (.g (.a (.n (.v 0)) (.c 1)))) (.zeq (.v 2) (.c (-1))))) (.zeq (.v 1) (.v 2)))):=L.run _ 3 (by decide +kernel) _ _
theorem o143:LH [a0,a1] [] (.no (.zeq (.n (.v 0)) (.a (.n (.v 0)) (.a (.n (.v 1)) (.c 1))))):=L.run _ 2 rfl _ _
theorem o144:LH [a0,a1] [] (.zeq (.a (.a (.n (.a (.v 0) (.c 1))) (.n (.v 1))) (.c 1)) (.a (.a (.n (.v 0)) (.n (.a (.v 1) (.c 1)))) (.c 1))):=L.run _ 2 rfl _ _
theorem o145:LH [a0,a1] [] (.im (.lt (.v 0) (.v 1)) (.no (.zeq (.n (.v 0)) (.n (.v 1))))):=L.run _ 2 rfl _ _
theorem o146:LH [a0] [] (.zeq (.a (.a (.n (.v 0)) (.c 1)) (.c (-1))) (.n (.v 0))):=L.run _ 1 rfl _ _
theorem o147:LH [a0] [] (.zeq (.s (.a (.n (.v 0)) (.c 1)) (.c 1)) (.n (.v 0))):=L.run _ 1 rfl _ _
theorem o148:LH [a0,a1] [] (.im (.zeq (.n (.v 0)) (.n (.v 1))) (.eq (.v 0) (.v 1))):=L.run _ 2 rfl _ _
theorem o150:LH [a0,a1] [] (.im (.le (.v 0) (.c 1000)) (.im (.le (.v 1) (.m 2 (.a (.v 0) (.c 2)))) (.lt (.v 1) (.c 16777216)))):=L.run _ 2 rfl _ _
theorem o151:LH [a0] [] (.zeq (.a (.a (.n (.v 0)) (.c 1)) (.c 1)) (.a (.n (.v 0)) (.c 2))):=L.run _ 1 rfl _ _
theorem o152:LH [a0] [] (.im (.le (.v 0) (.c 1000)) (.zle (.a (.n (.v 0)) (.c 2)) (.c 16777216))):=L.run _ 1 rfl _ _
theorem o153:LH [a0] [] (.zle (.c 0) (.a (.n (.v 0)) (.c 2))):=L.run _ 1 rfl _ _
theorem o154:LH [a0,a1,a2] [] (.im (.le (.v 0) (.c 1000)) (.im (.le (.v 1) (.m 2 (.a (.v 0) (.c 2)))) (.im (.le (.v 2) (.m 2 (.a (.v 0) (.c 2)))) (.lt (.a (.v 1) (.v 2)) (.c 16777216))))):=L.run _ 3 rfl _ _
theorem o155:LH [a0,a1,a2] [] (.im (.le (.v 0) (.v 1)) (.im (.lt (.v 2) (.a (.c 0) (.v 0))) (.im (.zeq (.n (.v 2)) (.n (.v 1))) .ff))):=L.run _ 3 rfl _ _
theorem o156:LH [a0,a1] [] (.im (.lt (.a (.v 0) (.a (.v 1) (.c 1))) (.c 1000)) (.lt (.a (.a (.v 0) (.c 1)) (.v 1)) (.c 1000))):=L.run _ 2 rfl _ _
theorem o157:(a0<=a1)->(a1<=a0)->a0=a1:=L.run (.im (.le (.v 0) (.v 1)) (.im (.le (.v 1) (.v 0)) (.eq (.v 0) (.v 1)))) 2 rfl [a0,a1] []
theorem o158:LH [a0,a1] [] (.im (.lt (.a (.v 0) (.a (.v 1) (.c 1))) (.c 1000)) (.lt (.v 0) (.c 16777216))):=L.run _ 2 rfl _ _
theorem o164:LH [a0] [] (.im (.le (.v 0) (.c 10)) (.le (.v 0) (.c 16777216))):=L.run _ 1 rfl _ _
theorem o173:LH [a0] [] (.zlt (.c 0) (.a (.n (.v 0)) (.c 1))):=L.run _ 1 rfl _ _
theorem o174:LH [a0,a1,a2] [] (.im (.le (.v 0) (.a (.v 1) (.v 2))) (.le (.v 0) (.a (.v 1) (.a (.v 2) (.c 1))))):=L.run _ 3 rfl _ _
theorem o175:LH [a0,a1,a2] [] (.im (.le (.v 0) (.a (.a (.v 1) (.c 1)) (.v 2))) (.le (.v 0) (.a (.v 1) (.a (.v 2) (.c 1))))):=L.run _ 3 rfl _ _
theorem o176:LH [a0] [] (.no (.zlt (.c 0) (.g (.a (.n (.v 0)) (.c 1))))):=L.run _ 1 rfl _ _
theorem o178:LH [a0,a1] [] (.im (.le (.a (.v 0) (.a (.v 1) (.c 1))) (.c 1000)) (.le (.v 0) (.c 1000))):=L.run _ 2 rfl _ _
theorem o180:LH [a0,a1] [] (.im (.le (.v 0) (.v 1)) (.im (.le (.v 1) (.c 1000)) (.lt (.v 0) (.c 16777216)))):=L.run _ 2 rfl _ _
theorem o181:LH [a0,a1] [] (.im (.le (.v 0) (.c 1000)) (.im (.le (.v 1) (.v 0)) (.le (.v 1) (.c 16777216)))):=L.run _ 2 rfl _ _
theorem o182:LH [a0,a1] [] (.im (.zeq (.a (.n (.v 0)) (.c 1)) (.a (.n (.v 1)) (.c 1))) (.eq (.v 0) (.v 1))):=L.run _ 2 rfl _ _
theorem o183:LH [a0] [] (.no (.zlt (.n (.v 0)) (.c 0))):=L.run _ 1 rfl _ _
theorem o184:LH [a0,a1] [] (.im (.le (.v 0) (.v 1)) (.eq (.mn (.v 0) (.v 1)) (.v 0))):=L.run _ 2 rfl _ _
theorem o185:LH [a0] [] (.im (.le (.v 0) (.c 1000)) (.le (.v 0) (.c 16777216))):=L.run _ 1 rfl _ _
theorem o187:LH [a0] [] (.zle (.c 0) (.a (.n (.v 0)) (.c 1))):=L.run _ 1 rfl _ _
theorem o189:LH [] [z0] (.im (.zlt (.v 0) (.c 0)) (.no (.zlt (.c 0) (.v 0)))):=L.run _ 1 rfl _ _
theorem o190:LH [a0] [] (.zle (.c 0) (.n (.v 0))):=L.run _ 1 rfl _ _
theorem o192:LH [] [z0] (.im (.zlt (.c 0) (.v 0)) (.zle (.c 0) (.v 0))):=L.run _ 1 rfl _ _
theorem o193:LH [] [z0] (.im (.zlt (.c 0) (.v 0)) (.no (.zeq (.v 0) (.c 0)))):=L.run _ 1 rfl _ _
theorem o195:LH [a0] [] (.im (.le (.v 0) (.c 1000)) (.zle (.n (.v 0)) (.n (.c 16777216)))):=L.run _ 1 rfl _ _
theorem o196:LH [] [z0] (.im (.zle (.c 0) (.v 0)) (.zle (.c 0) (.a (.v 0) (.c 48271)))):=L.run _ 1 rfl _ _
theorem o197:LH [] [z0] (.im (.zlt (.v 0) (.c 2147483647)) (.zlt (.a (.v 0) (.c 48271)) (.c 2147531918))):=L.run _ 1 rfl _ _
theorem o198:LH [] [z0] (.im (.zlt (.v 0) (.c 2147483647)) (.zlt (.v 0) (.c 2147531918))):=L.run _ 1 rfl _ _
theorem o199:LH [a0] [] (.im (.le (.v 0) (.c 20)) (.lt (.a (.v 0) (.c 1)) (.c 1000))):=L.run _ 1 rfl _ _
theorem o200:LH [a0,a1] [] (.im (.lt (.a (.v 0) (.c 1)) (.v 1)) (.le (.v 0) (.v 1))):=L.run _ 2 rfl _ _
theorem o201:LH [a0,a1] [] (.im (.lt (.a (.v 0) (.c 1)) (.v 1)) (.le (.a (.v 0) (.c 2)) (.v 1))):=L.run _ 2 rfl _ _
theorem o202:LH [a0] [] (.im (.le (.v 0) (.c 20)) (.le (.a (.v 0) (.c 1)) (.c 1000))):=L.run _ 1 rfl _ _
theorem o203:LH [a0,a1,a2] [] (.im (.eq (.v 0) (.v 1)) (.im (.lt (.v 2) (.v 1)) (.lt (.v 2) (.v 0)))):=L.run _ 3 rfl _ _
theorem o204:LH [a0] [] (.im (.lt (.v 0) (.c 5)) (.le (.v 0) (.c 16777216))):=L.run _ 1 rfl _ _
theorem o205:LH [a0] [] (.im (.lt (.v 0) (.c 5)) (.le (.v 0) (.c 1000))):=L.run _ 1 rfl _ _
theorem o206:LH [a0,a1] [] (.im (.le (.v 0) (.c 10)) (.im (.eq (.v 1) (.v 0)) (.le (.v 1) (.c 10)))):=L.run _ 2 rfl _ _
theorem o207:LH [a0,a1] [] (.im (.eq (.v 0) (.a (.v 1) (.c 1))) (.le (.c 1) (.v 0))):=L.run _ 2 rfl _ _
theorem o208:LH [a0] [] (.im (.lt (.v 0) (.c 5)) (.le (.v 0) (.c 10))):=L.run _ 1 rfl _ _
theorem o209:LH [a0,a1] [] (.im (.le (.v 0) (.c 10)) (.le (.mn (.v 1) (.v 0)) (.c 16777214))):=L.run _ 2 rfl _ _
theorem o210:LH [a0] [] (.zeq (.a (.n (.v 0)) (.c 2)) (.n (.a (.v 0) (.c 2)))):=L.run _ 1 rfl _ _
theorem o211:LH [a0,a1] [] (.im (.no (.eq (.v 0) (.v 1))) (.no (.zeq (.n (.v 0)) (.n (.v 1))))):=L.run _ 2 rfl _ _
theorem o213:LH [a0] [] (.im (.le (.c 2) (.v 0)) (.zlt (.c 0) (.s (.n (.v 0)) (.c 1)))):=L.run _ 1 rfl _ _
theorem o214:LH [] [z0] (.im (.zle (.c 0) (.v 0)) (.im (.zlt (.v 0) (.c 2)) (.im (.no (.zeq (.v 0) (.c 0))) (.zeq (.v 0) (.c 1))))):=L.run _ 1 rfl _ _
theorem o215:LH [a0,a1] [] (.im (.lt (.a (.v 0) (.a (.v 1) (.c 1))) (.c 100)) (.lt (.v 0) (.c 100))):=L.run _ 2 rfl _ _
theorem o216:LH [a0,a1] [] (.im (.lt (.a (.v 0) (.a (.v 1) (.c 1))) (.c 100)) (.lt (.a (.a (.v 0) (.c 1)) (.v 1)) (.c 100))):=L.run _ 2 rfl _ _
theorem o217:LH [a0] [] (.zle (.c 0) (.a (.c 2) (.n (.v 0)))):=L.run _ 1 rfl _ _
theorem o218:LH [a0] [] (.zeq (.s (.n (.v 0)) (.c 1)) (.s (.n (.v 0)) (.c 1))):=L.run _ 1 rfl _ _
theorem o219:LH [a0] [] (.im (.le (.c 2) (.v 0)) (.im (.no (.zlt (.c 1) (.s (.n (.v 0)) (.c 1)))) (.zeq (.c 1) (.s (.n (.v 0)) (.c 1))))):=L.run _ 1 rfl _ _
theorem o220:LH [a0] [] (.im (.le (.c 2) (.v 0)) (.no (.zeq (.s (.n (.v 0)) (.c 1)) (.c 0)))):=L.run _ 1 rfl _ _
theorem o221:LH [a0] [] (.im (.lt (.v 0) (.c 100)) (.lt (.v 0) (.c 16777216))):=L.run _ 1 rfl _ _
theorem o222:LH [a0,a1,a2] [] (.im (.lt (.a (.v 0) (.c 1)) (.v 1)) (.im (.eq (.v 2) (.v 1)) (.lt (.a (.v 0) (.c 1)) (.v 2)))):=L.run _ 3 rfl _ _
theorem o223:LH [a0,a1] [] (.im (.lt (.v 0) (.c 5)) (.im (.eq (.v 1) (.v 0)) (.le (.v 1) (.c 10)))):=L.run _ 2 rfl _ _
theorem o224:LH [a0,a1] [] (.im (.lt (.a (.v 0) (.a (.v 1) (.c 1))) (.c 100)) (.lt (.a (.v 0) (.v 1)) (.c 100))):=L.run _ 2 rfl _ _
theorem o225:LH [a0] [] (.im (.lt (.c 1) (.v 0)) (.lt (.c 0) (.v 0))):=L.run _ 1 rfl _ _
theorem o226:LH [a0] [] (.im (.lt (.c 1) (.v 0)) (.lt (.c 1) (.v 0))):=L.run _ 1 rfl _ _
theorem o230:LH [a0] [] (.im (.lt (.c 1) (.v 0)) (.zlt (.c 1) (.n (.v 0)))):=L.run _ 1 rfl _ _
theorem o231:LH [a0] [] (.im (.no (.lt (.c 1) (.v 0))) (.zle (.n (.v 0)) (.c 1))):=L.run _ 1 rfl _ _
theorem o232:LH [a0] [z0] (.im (.zle (.c 0) (.v 0)) (.im (.zeq (.n (.v 0)) (.a (.c 1) (.v 0))) (.lt (.c 0) (.v 0)))):=L.run _ 1 rfl _ _
theorem o233:LH [a0] [z0] (.im (.zlt (.v 0) (.c 4)) (.im (.zeq (.n (.v 0)) (.a (.c 1) (.v 0))) (.lt (.v 0) (.c 5)))):=L.run _ 1 rfl _ _
theorem o242:LH [a0] [z0] (.im (.zle (.c 0) (.v 0)) (.im (.zeq (.n (.v 0)) (.a (.c 1) (.v 0))) (.zeq (.s (.n (.v 0)) (.c 1)) (.n (.s (.v 0) (.c 1)))))):=L.run _ 1 rfl _ _
theorem o243:LH [a0] [z0] (.im (.zlt (.v 0) (.c 4)) (.im (.zeq (.n (.v 0)) (.a (.c 1) (.v 0))) (.le (.s (.v 0) (.c 1)) (.c 1000)))):=L.run _ 1 rfl _ _
theorem o244:LH [a0] [z0] (.im (.zle (.c 0) (.v 0)) (.im (.zeq (.n (.v 0)) (.a (.c 1) (.v 0))) (.im (.no (.le (.c 2) (.v 0))) (.eq (.v 0) (.c 1))))):=L.run _ 1 rfl _ _
theorem o245:LH [a0] [] (.im (.no (.le (.c 2) (.v 0))) (.no (.lt (.c 1) (.v 0)))):=L.run _ 1 rfl _ _
theorem o246:LH [a0] [] (.im (.no (.le (.c 2) (.v 0))) (.im (.le (.c 2) (.v 0)) .ff)):=L.run _ 1 rfl _ _
theorem o247:LH [] [] (.le (.c 0) (.c 1000)):=L.run _ 0 rfl _ _
theorem o248:LH [a0,a1] [] (.im (.le (.v 0) (.v 1)) (.le (.a (.c 1) (.v 0)) (.a (.v 1) (.c 1)))):=L.run _ 2 rfl _ _
theorem o249:LH [a0] [] (.im (.lt (.v 0) (.c 1000)) (.lt (.v 0) (.c 16777216))):=L.run _ 1 rfl _ _
theorem o250:LH [a0] [] (.im (.le (.v 0) (.c 10)) (.le (.v 0) (.c 1000))):=L.run _ 1 rfl _ _
theorem o251:LH [a0,a1] [] (.im (.le (.a (.v 0) (.a (.v 1) (.c 1))) (.c 10)) (.lt (.v 0) (.c 1000))):=L.run _ 2 rfl _ _
theorem o252:LH [a0,a1] [] (.im (.lt (.a (.v 0) (.v 1)) (.c 1000)) (.lt (.v 0) (.c 1000))):=L.run _ 2 rfl _ _
theorem o253:LH [a0,a1] [] (.im (.lt (.a (.v 0) (.a (.v 1) (.c 1))) (.c 1000)) (.lt (.a (.v 0) (.v 1)) (.c 1000))):=L.run _ 2 rfl _ _
theorem o254:LH [a0,a1] [] (.im (.no (.eq (.v 0) (.a (.v 1) (.c 1)))) (.no (.zeq (.n (.v 0)) (.a (.n (.v 1)) (.c 1))))):=L.run _ 2 rfl _ _
theorem o255:LH [a0,a1,a2] [] (.im (.le (.v 0) (.v 1)) (.im (.eq (.v 2) (.v 1)) (.le (.v 0) (.v 2)))):=L.run _ 3 rfl _ _
theorem o256:LH [a0,a1,a2,a3] [] (.im (.le (.v 0) (.v 1)) (.im (.le (.v 2) (.v 3)) (.le (.a (.v 0) (.v 2)) (.a (.v 3) (.m 1 (.v 1)))))):=L.run _ 4 rfl _ _
theorem o257:LH [a0] [] (.im (.lt (.v 0) (.c 5)) (.le (.v 0) (.c 4))):=L.run _ 1 rfl _ _
theorem o258:LH [a0,a1] [] (.im (.lt (.v 0) (.c 500)) (.le (.a (.s (.v 0) (.v 1)) (.mn (.v 1) (.v 0))) (.c 16777216))):=L.run _ 2 rfl _ _
theorem o260:LH [a0] [] (.im (.le (.v 0) (.c 10)) (.le (.a (.c 1) (.v 0)) (.c 16777216))):=L.run _ 1 rfl _ _
theorem o263:LH [a0,a1] [z0] (.im (.zlt (.v 0) (.n (.v 0))) (.im (.zeq (.n (.v 1)) (.v 0)) (.le (.v 1) (.v 0)))):=L.run _ 2 rfl _ _
theorem o264:LH [a0,a1] [z0] (.im (.zlt (.v 0) (.c 1)) (.im (.zeq (.n (.v 0)) (.v 0)) (.le (.v 0) (.v 1)))):=L.run _ 2 rfl _ _
theorem o265:LH [a0,a1] [] (.im (.le (.v 0) (.c 40)) (.le (.a (.s (.v 0) (.v 1)) (.mn (.v 1) (.v 0))) (.c 1000))):=L.run _ 2 rfl _ _
theorem o267:LH [a0] [] (.im (.le (.v 0) (.c 40)) (.lt (.v 0) (.c 500))):=L.run _ 1 rfl _ _
theorem o286:(a0=a1)->(a1<=a2)->a0<=a2:=L.run (.im (.eq (.v 0) (.v 1)) (.im (.le (.v 1) (.v 2)) (.le (.v 0) (.v 2)))) 3 rfl [a0,a1,a2] []
theorem o287:0<=64:=L.run (.le (.c 0) (.c 64)) 0 rfl [] []
theorem o288:(a0 < 62)->(a0+1)<=64:=L.run (.im (.lt (.v 0) (.c 62)) (.le (.a (.v 0) (.c 1)) (.c 64))) 1 rfl [a0] []
theorem o289:(a0=a1)->(a2=a3)->((a1+a3)<=a4)->(a0+a2)<=a4:=L.run (.im (.eq (.v 0) (.v 1)) (.im (.eq (.v 2) (.v 3)) (.im (.le (.a (.v 1) (.v 3)) (.v 4)) (.le (.a (.v 0) (.v 2)) (.v 4))))) 5 rfl [a0,a1,a2,a3,a4] []
theorem o290:((a0+200) < a1)->(a2<=60)->(a3=a2)->((a0+1)+(min a4 a3)) < a1:=L.run (.im (.lt (.a (.v 0) (.c 200)) (.v 1)) (.im (.le (.v 2) (.c 60)) (.im (.eq (.v 3) (.v 2)) (.lt (.a (.a (.v 0) (.c 1)) (.mn (.v 4) (.v 3))) (.v 1))))) 5 rfl [a0,a1,a2,a3,a4] []
theorem o291:((a0+200) < a1)->(a0+1) < a1:=L.run (.im (.lt (.a (.v 0) (.c 200)) (.v 1)) (.lt (.a (.v 0) (.c 1)) (.v 1))) 2 rfl [a0,a1] []
theorem o292:((a0+200) < a1)->(a2<=60)->(a3=a2)->(a0+(min a3 a4)) < a1:=L.run (.im (.lt (.a (.v 0) (.c 200)) (.v 1)) (.im (.le (.v 2) (.c 60)) (.im (.eq (.v 3) (.v 2)) (.lt (.a (.v 0) (.mn (.v 3) (.v 4))) (.v 1))))) 5 rfl [a0,a1,a2,a3,a4] []
theorem o294:(a0<=a1)->(min (a2-a3) (a0-a3))<=a1:=L.run (.im (.le (.v 0) (.v 1)) (.le (.mn (.s (.v 2) (.v 3)) (.s (.v 0) (.v 3))) (.v 1))) 4 rfl [a0,a1,a2,a3] []
theorem o297:(0<=z0)->¬ (z0 < 0):=L.run (.im (.zle (.c 0) (.v 0)) (.no (.zlt (.v 0) (.c 0)))) 1 rfl [] [z0]
theorem o298:(z0 < 0)->(z0+(a0:Int))<=(a0:Int):=L.run (.im (.zlt (.v 0) (.c 0)) (.zle (.a (.v 0) (.n (.v 0))) (.n (.v 0)))) 1 rfl [a0] [z0]
theorem o299:(¬ (z0 < 0))->0<=z0:=L.run (.im (.no (.zlt (.v 0) (.c 0))) (.zle (.c 0) (.v 0))) 1 rfl [] [z0]
theorem o302:((((a0:Int)-0)-1)+1)=(a0:Int):=L.run (.zeq (.a (.s (.s (.n (.v 0)) (.c 0)) (.c 1)) (.c 1)) (.n (.v 0))) 1 rfl [a0] []
theorem o303:(¬ (0 < (a0:Int)))->0=(a0:Int):=L.run (.im (.no (.zlt (.c 0) (.n (.v 0)))) (.zeq (.c 0) (.n (.v 0)))) 1 rfl [a0] []
theorem o304:((a0:Int)<=((16777216:Nat):Int))->a0<=16777216:=L.run (.im (.zle (.n (.v 0)) (.n (.c 16777216))) (.le (.v 0) (.c 16777216))) 1 rfl [a0] []
theorem o310:(3 < a0)->¬ (a0=1):=L.run (.im (.lt (.c 3) (.v 0)) (.no (.eq (.v 0) (.c 1)))) 1 rfl [a0] []
theorem o311:(((a0+(20*a1))+300) < a2)->(a0+200) < a2:=L.run (.im (.lt (.a (.a (.v 0) (.m 20 (.v 1))) (.c 300)) (.v 2)) (.lt (.a (.v 0) (.c 200)) (.v 2))) 3 rfl [a0,a1,a2] []
theorem o312:(a0 < a1)->(a2 < a0)->a2 < a1:=L.run (.im (.lt (.v 0) (.v 1)) (.im (.lt (.v 2) (.v 0)) (.lt (.v 2) (.v 1)))) 3 rfl [a0,a1,a2] []
theorem o315:((z0+(a0:Int))+1)=(z0+(((a0+1):Nat):Int)):=L.run (.zeq (.a (.a (.v 0) (.n (.v 0))) (.c 1)) (.a (.v 0) (.n (.a (.v 0) (.c 1))))) 1 rfl [a0] [z0]
theorem o316:(((z0-z1)-(a0:Int))-1)=((z0-z1)-(((a0+1):Nat):Int)):=L.run (.zeq (.s (.s (.s (.v 0) (.v 1)) (.n (.v 0))) (.c 1)) (.s (.s (.v 0) (.v 1)) (.n (.a (.v 0) (.c 1))))) 2 rfl [a0] [z0,z1]
theorem o317:(((z0-z1)-1)+1)=(z0-z1):=L.run (.zeq (.a (.s (.s (.v 0) (.v 1)) (.c 1)) (.c 1)) (.s (.v 0) (.v 1))) 2 rfl [] [z0,z1]
theorem o318:(z0<=z1)->(¬ (z0 < z1))->0=(z1-z0):=L.run (.im (.zle (.v 0) (.v 1)) (.im (.no (.zlt (.v 0) (.v 1))) (.zeq (.c 0) (.s (.v 1) (.v 0))))) 2 rfl [] [z0,z1]
theorem o323:(z0<=((16777216:Nat):Int))->z0<=16777216:=L.run (.im (.zle (.v 0) (.n (.c 16777216))) (.zle (.v 0) (.c 16777216))) 1 rfl [] [z0]
theorem o324:(a0 < a1)->(a2+a0) < (a2+a1):=L.run (.im (.lt (.v 0) (.v 1)) (.lt (.a (.v 2) (.v 0)) (.a (.v 2) (.v 1)))) 3 rfl [a0,a1,a2] []
theorem o325:((a0+a1)=(a0+a2))->a1=a2:=L.run (.im (.eq (.a (.v 0) (.v 1)) (.a (.v 0) (.v 2))) (.eq (.v 1) (.v 2))) 3 rfl [a0,a1,a2] []
theorem o326:(a0=a1)->(a2<=a1)->(a0 < a2)->False:=L.run (.im (.eq (.v 0) (.v 1)) (.im (.le (.v 2) (.v 1)) (.im (.lt (.v 0) (.v 2)) .ff))) 3 rfl [a0,a1,a2] []
theorem o327:(a0<=a1)->((a1+1)-(a0+1)) < ((a1+1)-a0):=L.run (.im (.le (.v 0) (.v 1)) (.lt (.s (.a (.v 1) (.c 1)) (.a (.v 0) (.c 1))) (.s (.a (.v 1) (.c 1)) (.v 0)))) 2 rfl [a0,a1] []
theorem o328:(a0<=a1)->(a2<=a0)->(a3<=a2)->(a4=a3)->a4<=a1:=L.run (.im (.le (.v 0) (.v 1)) (.im (.le (.v 2) (.v 0)) (.im (.le (.v 3) (.v 2)) (.im (.eq (.v 4) (.v 3)) (.le (.v 4) (.v 1)))))) 5 rfl [a0,a1,a2,a3,a4] []
theorem o329:((a0+a1) < a0)->False:=L.run (.im (.lt (.a (.v 0) (.v 1)) (.v 0)) .ff) 2 rfl [a0,a1] []
theorem o330:(a0+(a1+1))=((a0+1)+a1):=L.run (.eq (.a (.v 0) (.a (.v 1) (.c 1))) (.a (.a (.v 0) (.c 1)) (.v 1))) 2 rfl [a0,a1] []
theorem o331:(a0<=a1)->(a1 < (a0+a2))->(a1-a0) < a2:=L.run (.im (.le (.v 0) (.v 1)) (.im (.lt (.v 1) (.a (.v 0) (.v 2))) (.lt (.s (.v 1) (.v 0)) (.v 2)))) 3 rfl [a0,a1,a2] []
theorem o332:(a0<=(a1+a2))->(a1<=(a3+1))->a0<=(a3+(a2+1)):=L.run (.im (.le (.v 0) (.a (.v 1) (.v 2))) (.im (.le (.v 1) (.a (.v 3) (.c 1))) (.le (.v 0) (.a (.v 3) (.a (.v 2) (.c 1)))))) 4 rfl [a0,a1,a2,a3] []
theorem o333:(a0<=a1)->(a2=a0)->a2<=a1:=L.run (.im (.le (.v 0) (.v 1)) (.im (.eq (.v 2) (.v 0)) (.le (.v 2) (.v 1)))) 3 rfl [a0,a1,a2] []
theorem o334:(min a0 a1)<=a1:=L.run (.le (.mn (.v 0) (.v 1)) (.v 1)) 2 rfl [a0,a1] []
theorem o335:((a0+a1)<=a2)->(a3<=(a0+a4))->(a4<=a1)->a3<=a2:=L.run (.im (.le (.a (.v 0) (.v 1)) (.v 2)) (.im (.le (.v 3) (.a (.v 0) (.v 4))) (.im (.le (.v 4) (.v 1)) (.le (.v 3) (.v 2))))) 5 rfl [a0,a1,a2,a3,a4] []
theorem o336:(a0=a1)->(a0<=a2)->a1<=(a2+1):=L.run (.im (.eq (.v 0) (.v 1)) (.im (.le (.v 0) (.v 2)) (.le (.v 1) (.a (.v 2) (.c 1))))) 3 rfl [a0,a1,a2] []
theorem o337:(a0 < a1)->(a2<=(a0+1))->a2<=a1:=L.run (.im (.lt (.v 0) (.v 1)) (.im (.le (.v 2) (.a (.v 0) (.c 1))) (.le (.v 2) (.v 1)))) 3 rfl [a0,a1,a2] []
theorem o338:(a0=a1)->a1=a0:=L.run (.im (.eq (.v 0) (.v 1)) (.eq (.v 1) (.v 0))) 2 rfl [a0,a1] []
theorem o339:(a0<=a1)->(a0=a2)->a2<=a1:=L.run (.im (.le (.v 0) (.v 1)) (.im (.eq (.v 0) (.v 2)) (.le (.v 2) (.v 1)))) 3 rfl [a0,a1,a2] []
theorem o340:((a0+a1) < 16777216)->(16777216<=a2)->(a0+a1)<=a2:=L.run (.im (.lt (.a (.v 0) (.v 1)) (.c 16777216)) (.im (.le (.c 16777216) (.v 2)) (.le (.a (.v 0) (.v 1)) (.v 2)))) 3 rfl [a0,a1,a2] []
theorem o341:((a0+a1) < a2)->(a3<=(a0+a1))->a3<=a2:=L.run (.im (.lt (.a (.v 0) (.v 1)) (.v 2)) (.im (.le (.v 3) (.a (.v 0) (.v 1))) (.le (.v 3) (.v 2)))) 4 rfl [a0,a1,a2,a3] []
theorem o342:(a0=a1)->a0<=a1:=L.run (.im (.eq (.v 0) (.v 1)) (.le (.v 0) (.v 1))) 2 rfl [a0,a1] []
theorem o343:(a0 < (min a1 a2))->a0 < a1:=L.run (.im (.lt (.v 0) (.mn (.v 1) (.v 2))) (.lt (.v 0) (.v 1))) 3 rfl [a0,a1,a2] []
theorem o344:(a0 < (min a1 a2))->a0 < a2:=L.run (.im (.lt (.v 0) (.mn (.v 1) (.v 2))) (.lt (.v 0) (.v 2))) 3 rfl [a0,a1,a2] []
theorem o345:((a0+(a1+1)) < a2)->a0 < a2:=L.run (.im (.lt (.a (.v 0) (.a (.v 1) (.c 1))) (.v 2)) (.lt (.v 0) (.v 2))) 3 rfl [a0,a1,a2] []
theorem o346:(1000000007 < a0)->(a0 < 1000)->False:=L.run (.im (.lt (.c 1000000007) (.v 0)) (.im (.lt (.v 0) (.c 1000)) .ff)) 1 rfl [a0] []
theorem o347:(((a0+(20*(a1+1)))+300) < a2)->((a0+3)+200) < a2:=L.run (.im (.lt (.a (.a (.v 0) (.m 20 (.a (.v 1) (.c 1)))) (.c 300)) (.v 2)) (.lt (.a (.a (.v 0) (.c 3)) (.c 200)) (.v 2))) 3 rfl [a0,a1,a2] []
theorem o348:((a0+(a1+1)) < a2)->((a0+1)+a1) < a2:=L.run (.im (.lt (.a (.v 0) (.a (.v 1) (.c 1))) (.v 2)) (.lt (.a (.a (.v 0) (.c 1)) (.v 1)) (.v 2))) 3 rfl [a0,a1,a2] []
theorem o349:(((a0+(20*(a1+1)))+300) < a2)->(((a0+3)+(20*a1))+300) < a2:=L.run (.im (.lt (.a (.a (.v 0) (.m 20 (.a (.v 1) (.c 1)))) (.c 300)) (.v 2)) (.lt (.a (.a (.a (.v 0) (.c 3)) (.m 20 (.v 1))) (.c 300)) (.v 2))) 3 rfl [a0,a1,a2] []
theorem o350:(a0=a1)->(a1=a2)->(a3=a2)->(a4=a3)->(a5 < a0)->a5 < a4:=L.run (.im (.eq (.v 0) (.v 1)) (.im (.eq (.v 1) (.v 2)) (.im (.eq (.v 3) (.v 2)) (.im (.eq (.v 4) (.v 3)) (.im (.lt (.v 5) (.v 0)) (.lt (.v 5) (.v 4))))))) 6 rfl [a0,a1,a2,a3,a4,a5] []
theorem o351:(a0=a1)->(a1=a2)->(a3=a2)->(a4=a3)->(a5 < a0)->a5 < (min a4 a3):=L.run (.im (.eq (.v 0) (.v 1)) (.im (.eq (.v 1) (.v 2)) (.im (.eq (.v 3) (.v 2)) (.im (.eq (.v 4) (.v 3)) (.im (.lt (.v 5) (.v 0)) (.lt (.v 5) (.mn (.v 4) (.v 3)))))))) 6 rfl [a0,a1,a2,a3,a4,a5] []
theorem o352:(a0=a1)->(a1=a2)->(a3 < a0)->(a2<=a3)->False:=L.run (.im (.eq (.v 0) (.v 1)) (.im (.eq (.v 1) (.v 2)) (.im (.lt (.v 3) (.v 0)) (.im (.le (.v 2) (.v 3)) .ff)))) 4 rfl [a0,a1,a2,a3] []
theorem o353:(a0<=30)->(a1=300)->(a2=1000)->((1+a1)+a0) < a2:=L.run (.im (.le (.v 0) (.c 30)) (.im (.eq (.v 1) (.c 300)) (.im (.eq (.v 2) (.c 1000)) (.lt (.a (.a (.c 1) (.v 1)) (.v 0)) (.v 2))))) 3 rfl [a0,a1,a2] []
theorem o354:(a0<=30)->((4+(20*a0))+300) < 9900:=L.run (.im (.le (.v 0) (.c 30)) (.lt (.a (.a (.c 4) (.m 20 (.v 0))) (.c 300)) (.c 9900))) 1 rfl [a0] []
end Mine.Internal
end
section
namespace Mine.Internal
variable {a0 a1 a2 a3 a4 a5:Nat} {z0 z1 z2:Int}
theorem u3:LH [a0,a1] [] (.im (.lt (.v 0) (.v 1)) (.lt (.s (.s (.v 1) (.c 1)) (.v 0)) (.v 1))):=L.run _ 2 rfl _ _
theorem u4:LH [a0,a1] [] (.im (.no (.lt (.v 0) (.v 1))) (.le (.v 1) (.v 0))):=L.run _ 2 rfl _ _
theorem u7:LH [] [z0,z1] (.im (.zle (.v 0) (.v 1)) (.zle (.c 0) (.s (.v 1) (.v 0)))):=L.run _ 2 rfl _ _
theorem u10:LH [a0] [z0,z1] (.im (.zle (.v 0) (.n (.c 16777216))) (.im (.zle (.c 0) (.v 1)) (.im (.zeq (.s (.v 0) (.v 1)) (.n (.v 0))) (.le (.v 0) (.c 16777216))))):=L.run _ 2 rfl _ _
theorem u23:(z0<=((16777216:Nat):Int))->z0<=16777216:=L.run (.im (.zle (.v 0) (.n (.c 16777216))) (.zle (.v 0) (.c 16777216))) 1 rfl [] [z0]
theorem u24:(2<=z0)->¬ (z0=1):=L.run (.im (.zle (.c 2) (.v 0)) (.no (.zeq (.v 0) (.c 1)))) 1 rfl [] [z0]
theorem u29:(z0<=((1000)*1000))->z0<=1000000:=L.run (.im (.zle (.v 0) (.m (1000) (.c 1000))) (.zle (.v 0) (.c 1000000))) 1 rfl [] [z0]
theorem u30:(a0<=(1000*1000))->(0+a0)<=16777216:=L.run (.im (.le (.v 0) (.m 1000 (.c 1000))) (.le (.a (.c 0) (.v 0)) (.c 16777216))) 1 rfl [a0] []
theorem u31:(z0<=1000000)->¬ (1152921504606846975 < z0):=L.run (.im (.zle (.v 0) (.c 1000000)) (.no (.zlt (.c 1152921504606846975) (.v 0)))) 1 rfl [] [z0]
theorem u32:(z0<=1000000)->¬ (((16777216:Nat):Int) < z0):=L.run (.im (.zle (.v 0) (.c 1000000)) (.no (.zlt (.n (.c 16777216)) (.v 0)))) 1 rfl [] [z0]
theorem u33:(2<=z0)->(z0<=1000)->(((-9223372036854775808)<=z0)/\(z0 < 9223372036854775808)):=L.run (.im (.zle (.c 2) (.v 0)) (.im (.zle (.v 0) (.c 1000)) (.an (.zle (.c (-9223372036854775808)) (.v 0)) (.zlt (.v 0) (.c 9223372036854775808))))) 1 rfl [] [z0]
theorem u34:(0 < a0)->(a1=a0)->(a1=0)->False:=L.run (.im (.lt (.c 0) (.v 0)) (.im (.eq (.v 1) (.v 0)) (.im (.eq (.v 1) (.c 0)) .ff))) 2 rfl [a0,a1] []
theorem u35:(a0<=(1000*1000))->a0<=16777216:=L.run (.im (.le (.v 0) (.m 1000 (.c 1000))) (.le (.v 0) (.c 16777216))) 1 rfl [a0] []
theorem u36:(2<=z0)->0 < z0:=L.run (.im (.zle (.c 2) (.v 0)) (.zlt (.c 0) (.v 0))) 1 rfl [] [z0]
theorem u37:LH [a0] [] (.im (.le (.v 0) (.c 1000)) (.lt (.m 2 (.a (.v 0) (.c 2))) (.c 1000000))):=L.run _ 1 rfl _ _
theorem u45:LH [a0] [] (.le (.m 2 (.v 0)) (.a (.m 2 (.v 0)) (.c 1))):=L.run _ 1 rfl _ _
theorem u46:LH [a0] [] (.no (.eq (.a (.m 2 (.v 0)) (.c 1)) (.m 2 (.v 0)))):=L.run _ 1 rfl _ _
theorem u59:LH [a0,a1] [] (.im (.lt (.v 0) (.a (.m 2 (.v 1)) (.c 2))) (.im (.no (.lt (.v 0) (.m 2 (.v 1)))) (.o (.eq (.v 0) (.m 2 (.v 1))) (.eq (.v 0) (.a (.m 2 (.v 1)) (.c 1)))))):=L.run _ 2 rfl _ _
theorem u66:LH [a0,a1] [] (.im (.lt (.v 0) (.v 1)) (.an (.zlt (.c 0) (.a (.n (.v 0)) (.c 1))) (.zle (.a (.n (.v 0)) (.c 1)) (.n (.v 1))))):=L.run _ 2 rfl _ _
theorem u68:LH [] [z0] (.im (.zlt (.g (.v 0)) (.c 0)) (.im (.zlt (.v 0) (.c 0)) (.zeq (.g (.g (.v 0))) (.g (.v 0))))):=L.run _ 1 rfl _ _
theorem u70:LH [] [z0] (.zeq (.g (.g (.v 0))) (.v 0)):=L.run _ 1 rfl _ _
theorem u71:LH [] [z0] (.zeq (.g (.v 0)) (.g (.v 0))):=L.run _ 1 rfl _ _
theorem u72:LH [] [z0,z1] (.im (.zeq (.g (.v 0)) (.g (.v 1))) (.o (.zeq (.v 1) (.v 0)) (.zeq (.v 1) (.g (.v 0))))):=L.run _ 2 rfl _ _
theorem u73:LH [] [z0] (.im (.no (.zlt (.g (.v 0)) (.c 0))) (.im (.no (.zlt (.v 0) (.c 0))) (.zeq (.g (.v 0)) (.v 0)))):=L.run _ 1 rfl _ _
theorem u74:LH [] [z0,z1] (.im (.zeq (.g (.v 0)) (.v 1)) (.o (.zeq (.v 1) (.v 0)) (.zeq (.v 1) (.g (.v 0))))):=L.run _ 2 rfl _ _
theorem u75:LH [] [z0,z1] (.im (.zeq (.v 0) (.g (.v 1))) (.o (.zeq (.v 1) (.v 0)) (.zeq (.v 1) (.g (.v 0))))):=L.run _ 2 rfl _ _
theorem u76:LH [] [z0,z1] (.im (.zeq (.v 0) (.v 1)) (.o (.zeq (.v 1) (.v 0)) (.zeq (.v 1) (.g (.v 0))))):=L.run _ 2 rfl _ _
theorem u78:LH [] [z0,z1] (.im (.zeq (.v 0) (.g (.v 1))) (.zeq (.g (.v 0)) (.v 1))):=L.run _ 2 rfl _ _
theorem u79:LH [a0] [] (.eq (.a (.v 0) (.v 0)) (.m 2 (.v 0))):=L.run _ 1 rfl _ _
theorem u80:LH [a0] [z0] (.im (.zle (.g (.v 0)) (.n (.v 0))) (.im (.zlt (.v 0) (.c 0)) (.an (.zlt (.c 0) (.g (.v 0))) (.zle (.g (.v 0)) (.n (.v 0)))))):=L.run _ 1 rfl _ _
theorem u81:LH [a0] [] (.im (.le (.a (.m 2 (.v 0)) (.c 1)) (.m 2 (.v 0))) .ff):=L.run _ 1 rfl _ _
theorem u83:LH [a0] [z0] (.im (.no (.zeq (.v 0) (.c 0))) (.im (.zle (.v 0) (.n (.v 0))) (.im (.no (.zlt (.v 0) (.c 0))) (.an (.zlt (.c 0) (.v 0)) (.zle (.v 0) (.n (.v 0))))))):=L.run _ 1 rfl _ _
theorem u84:LH [a0,a1] [] (.im (.zeq (.a (.n (.v 0)) (.c 1)) (.a (.n (.v 1)) (.c 1))) (.eq (.v 0) (.v 1))):=L.run _ 2 rfl _ _
theorem u88:LH [a0,a1] [] (.im (.lt (.v 0) (.v 1)) (.zle (.a (.n (.v 0)) (.c 1)) (.n (.v 1)))):=L.run _ 2 rfl _ _
theorem u139:LH [a0,a1] [] (.im (.le (.v 0) (.v 1)) (.im (.le (.v 1) (.v 0)) (.eq (.v 0) (.v 1)))):=L.run _ 2 rfl _ _
theorem u177:LH [a0,a1,a2] [] (.im (.lt (.a (.v 0) (.a (.v 1) (.c 1))) (.v 2)) (.lt (.v 0) (.v 2))):=L.run _ 3 rfl _ _
theorem u179:LH [a0,a1,a2] [] (.im (.lt (.a (.v 0) (.a (.v 1) (.c 1))) (.v 2)) (.lt (.a (.a (.v 0) (.c 1)) (.v 1)) (.v 2))):=L.run _ 3 rfl _ _
theorem u187:LH [a0,a1] [] (.im (.le (.v 0) (.c 80)) (.im (.lt (.v 1) (.a (.v 0) (.c 2))) (.lt (.v 1) (.a (.c 80) (.c 2))))):=L.run _ 2 rfl _ _
end Mine.Internal
end
section
namespace Mine.Internal
variable {a0 a1 a2 a3:Nat} {z0 z1:Int}
theorem nab {z:Int} {n:Nat} (h0:0<=z) (h:z < n):z.natAbs < n:=by obtain ⟨m,rfl⟩:=Int.eq_ofNat_of_zero_le h0;exact Int.ofNat_lt.1 h
theorem v2:(max (z0+(a0:Int)) 0)=((((z0+(a0:Int))).toNat:Nat):Int):=(Int.ofNat_toNat _).symm
theorem v3:(((a0:Int)+((a1:Int)*(1)))).toNat=(a0+a1):=(congrArg (fun z:Int=>((a0:Int)+z).toNat) (Int.mul_one _)).trans rfl
theorem v4:(¬ (z0 < 0))->(min z0 (a0:Int))=(((min (z0).toNat a0):Nat):Int):=fun h=>by obtain ⟨n,rfl⟩:=Int.eq_ofNat_of_zero_le (Int.not_lt.mp h);simp only [Int.min_def,Nat.min_def,Int.ofNat_le,Int.toNat_natCast];split<;>rfl
theorem v5:¬ (1 < 0):=by decide
theorem v8:((((a0:Int)-1)+((a1:Int)*(-1)))).toNat=((a0-1)-a1):=by rw [Int.mul_neg,Int.mul_one,<-Int.sub_eq_add_neg,Int.sub_sub];exact (Int.toNat_sub a0 (1+a1)).trans (Nat.sub_sub ..).symm
theorem v11:(0<=z0)->((z0).toNat < a0)->((0<=z0)/\(z0 < (a0:Int))):=fun h h2=>⟨h,(Int.toNat_lt h).1 h2⟩
theorem v14:((z0).toNat < a0)->(a1=a0)->(z0).toNat < a1:=fun h e=>e ▸ h
theorem v27:(a0 < ((z0-z1)).toNat)->0 < ((z0-z1)-(a0:Int)):=fun h=>Int.sub_pos_of_lt (Int.lt_toNat.1 h)
theorem v28:((z0-z1)-((((z0-z1)).toNat:Nat):Int))<=0:=Int.sub_nonpos_of_le (Int.self_le_toNat _)
theorem v31:(0<=z0)->(z1<=16777216)->((z1-z0)).toNat<=16777216:=fun h1 h2=>Int.toNat_le.2 (Int.le_trans (Int.sub_le_self z1 h1) h2)
theorem v34:(z0<=1000)->(z0).toNat<=1000:=fun h=>Int.toNat_le.2 h
theorem v35:(¬ (1073741824<=(z0).natAbs))->(z0).natAbs < 1073741824:=fun h=>Nat.lt_of_not_le h
theorem v36:(((2*a0)+1) / 2)=a0:=Nat.mul_add_div (by decide) a0 1
theorem v37:(a0 < (2*a1))->(a0 / 2) < a1:=fun h=>Nat.div_lt_of_lt_mul h
theorem v38:(((2*a0)+1) % 2)=1:=Nat.mul_add_mod 2 a0 1
theorem v39:(((a0 / 2)+1)=(a1+1))->(a0 / 2)=a1:=fun h=>Nat.succ.inj h
theorem v40:((a0=(2*(a0 / 2)))\/(a0=((2*(a0 / 2))+1))):=(Nat.mod_two_eq_zero_or_one a0).imp (fun h=>by have:=Nat.div_add_mod a0 2;rw [h] at this;exact this.symm) (fun h=>by have:=Nat.div_add_mod a0 2;rw [h] at this;exact this.symm)
theorem v41:(((a0 / 2)+1)=(a1+1))->((a0 % 2)=1)->a0=((2*a1)+1):=fun h1 h2=>by have:=Nat.div_add_mod a0 2;rw [h2,Nat.succ.inj h1] at this;exact this.symm
theorem v42:(0 < z0)->(z0<=(a0:Int))->((z0-1)).toNat < a0:=fun h1 h2=>(Int.toNat_lt (Int.sub_nonneg_of_le h1)).2 (Int.lt_of_lt_of_le (Int.sub_lt_self z0 (by decide)) h2)
theorem v43:(0 < z0)->(((((z0-1)).toNat:Nat):Int)+1)=z0:=fun h=>by rw [Int.toNat_of_nonneg (Int.sub_nonneg_of_le (show 1<=z0 from h))];exact Int.sub_add_cancel z0 1
theorem v50:((2+(a0:Int))).toNat=(a0+2):=Nat.add_comm 2 a0
theorem v51:(((a0:Int)+1)).toNat=(a0+1):=rfl
theorem v52:((a0+1) < a1)->(a1<=10)->¬ (1073741824<=(((a0:Int)+1)).natAbs):=fun h1 h2 h=>absurd (Nat.le_trans h (Nat.le_of_lt (Nat.lt_of_lt_of_le h1 h2))) (by decide)
theorem v53:(0<=z0)->(((z0).toNat:Nat):Int)=z0:=Int.toNat_of_nonneg
theorem v54:(2<=a0)->(z0 < ((a0:Int)-1))->((z0).toNat+1) < a0:=fun h1 h2=>Nat.add_lt_of_lt_sub ((Int.toNat_lt' (Nat.sub_pos_of_lt h1)).2 (by rw [Int.ofNat_sub (Nat.le_of_lt h1)];exact h2))
theorem v58:(0<=z0)->((((1+z0)).toNat:Nat):Int)=(1+z0):=fun h=>Int.toNat_of_nonneg (Int.add_nonneg (by decide) h)
theorem v59:(0<=z0)->((((z0*(1))).toNat:Nat):Int)=(z0*(1)):=fun h=>Int.toNat_of_nonneg (by rw [Int.mul_one];exact h)
theorem v60:((((z0*(0))).toNat:Nat):Int)=(z0*(0)):=by rw [Int.mul_zero];rfl
theorem v66:((a0:Int)=(z0*(0)))->a0=0:=fun e=>Int.ofNat.inj (e.trans (Int.mul_zero _))
theorem v67:(a0 < 1000)->¬ (4611686018427387904<=(((a0:Int)+1)).natAbs):=fun h q=>absurd (Nat.le_trans q h) (by decide)
theorem v68:(a0<=10)->((a1+((a2+1)*10)) < 500)->(a1+a0) < 1000:=fun h1 h2=>by rw [Nat.succ_mul] at h2;exact Nat.lt_of_le_of_lt (Nat.add_le_add_left (Nat.le_trans h1 (Nat.le_add_left 10 _)) a1) (Nat.lt_trans h2 (by decide))
theorem v69:(a0<=10)->((a1+((a2+1)*10)) < 500)->(a3<=a0)->((a1+a3)+(a2*10)) < 500:=fun h1 h2 h3=>Nat.lt_of_le_of_lt (by rw [Nat.add_assoc,Nat.succ_mul,Nat.add_comm a3];exact Nat.add_le_add_left (Nat.add_le_add_left (Nat.le_trans h3 h1) _) _) h2
theorem v70:(a0 < 5)->(a0*10) < 500:=fun h=>Nat.lt_of_lt_of_le (Nat.mul_lt_mul_of_pos_right h (by decide)) (by decide)
theorem v74:(((a0:Int)+2)).toNat=(a0+2):=rfl
theorem v80:(((a0:Int)+1)*(1))=((a0:Int)+1):=Int.mul_one _
theorem v81:(((a0:Int)+1)*(-1))=(-((a0:Int)+1)):=by rw [Int.mul_neg,Int.mul_one]
theorem v82:(a0<=1000)->(a1<=a0)->(a2 < a1)->(((a2:Int)+1)).natAbs < 4611686018427387904:=fun h1 h2 h3=>Nat.lt_of_le_of_lt (Nat.le_trans h3 (Nat.le_trans h2 h1)) (by decide)
theorem v85:(0<=z0)->(z0 < 2147531918)->(z0).natAbs < 4611686018427387904:=fun h0 h=>Nat.lt_trans (nab (n:=2147531918) h0 h) (by decide)
end Mine.Internal
end
section
namespace Mine.Internal
variable {a0 a1 a2 a3:Nat} {z0 z1 z2 z3:Int}
theorem y7:LH [a0] [] (.im (.lt (.c 0) (.v 0)) (.no (.zeq (.n (.v 0)) (.c 0)))):=L.run _ 1 rfl _ _
theorem y8:LH [a0] [] (.im (.le (.v 0) (.c 1000)) (.le (.v 0) (.c 16777216))):=L.run _ 1 rfl _ _
theorem y9:LH [a0] [] (.no (.zeq (.a (.n (.v 0)) (.c 1)) (.c 0))):=L.run _ 1 rfl _ _
theorem y10:LH [a0,a1] [] (.zle (.g (.a (.n (.v 0)) (.c 1))) (.n (.v 1))):=L.run _ 2 rfl _ _
theorem y12:LH [a0,a1] [] (.im (.lt (.v 0) (.v 1)) (.zle (.a (.n (.v 0)) (.c 1)) (.n (.v 1)))):=L.run _ 2 rfl _ _
theorem y13:LH [a0] [] (.no (.zeq (.g (.a (.n (.v 0)) (.c 1))) (.c 0))):=L.run _ 1 rfl _ _
theorem y14:LH [a0,a1] [] (.im (.lt (.v 0) (.v 1)) (.zle (.g (.g (.a (.n (.v 0)) (.c 1)))) (.n (.v 1)))):=L.run _ 2 rfl _ _
theorem y15:LH [a0,a1] [] (.im (.lt (.v 0) (.v 1)) (.lt (.m 2 (.v 0)) (.m 2 (.v 1)))):=L.run _ 2 rfl _ _
theorem y16:LH [a0,a1] [] (.im (.le (.a (.v 0) (.c 1)) (.v 1)) (.le (.v 0) (.v 1))):=L.run _ 2 rfl _ _
theorem y17:LH [a0,a1] [] (.im (.lt (.v 0) (.v 1)) (.lt (.a (.m 2 (.v 0)) (.c 1)) (.m 2 (.v 1)))):=L.run _ 2 rfl _ _
theorem y18:LH [a0] [] (.im (.le (.v 0) (.c 10)) (.le (.v 0) (.c 40))):=L.run _ 1 rfl _ _
theorem y21:LH [a0,a1] [] (.im (.le (.a (.v 0) (.a (.v 1) (.c 1))) (.c 1000)) (.le (.a (.a (.v 0) (.c 1)) (.v 1)) (.c 1000))):=L.run _ 2 rfl _ _
theorem y22:LH [a0,a1] [] (.zeq (.a (.c 1) (.s (.m (2) (.n (.v 0))) (.n (.v 1)))) (.s (.m (2) (.n (.a (.v 0) (.c 1)))) (.n (.a (.v 1) (.c 1))))):=L.run _ 2 rfl _ _
theorem y23:LH [a0,a1] [] (.eq (.a (.v 0) (.a (.v 1) (.c 1))) (.a (.a (.v 0) (.c 1)) (.v 1))):=L.run _ 2 rfl _ _
theorem y25:LH [a0] [] (.im (.le (.v 0) (.c 900)) (.le (.a (.c 0) (.v 0)) (.c 1000))):=L.run _ 1 rfl _ _
theorem y26:LH [a0] [] (.zle (.c 1) (.a (.n (.v 0)) (.c 1))):=L.run _ 1 rfl _ _
theorem y27:LH [a0,a1] [] (.zeq (.a (.c (-1)) (.s (.m (2) (.n (.v 0))) (.n (.v 1)))) (.s (.m (2) (.n (.v 0))) (.n (.a (.v 1) (.c 1))))):=L.run _ 2 rfl _ _
theorem y28:LH [a0,a1,a2] [] (.im (.le (.v 0) (.v 1)) (.im (.lt (.v 2) (.a (.v 0) (.c 0))) (.lt (.v 2) (.v 1)))):=L.run _ 3 rfl _ _
theorem y29:LH [a0] [] (.im (.le (.v 0) (.c 900)) (.zle (.a (.n (.v 0)) (.c 1)) (.n (.c 16777216)))):=L.run _ 1 rfl _ _
theorem y30:LH [a0] [] (.im (.le (.c 2) (.v 0)) (.zle (.c 2) (.n (.v 0)))):=L.run _ 1 rfl _ _
theorem y31:LH [a0] [] (.im (.le (.v 0) (.c 900)) (.zle (.n (.v 0)) (.c 1000))):=L.run _ 1 rfl _ _
theorem y32:LH [a0,a1] [] (.im (.le (.a (.v 0) (.a (.v 1) (.c 1))) (.c 1000)) (.le (.a (.m 2 (.v 0)) (.c 2)) (.c 16777216))):=L.run _ 2 rfl _ _
theorem y33:LH [a0] [] (.im (.le (.v 0) (.c 1)) (.le (.a (.v 0) (.c 1)) (.c 60))):=L.run _ 1 rfl _ _
theorem y36:LH [a0] [] (.im (.le (.v 0) (.c 8)) (.le (.v 0) (.c 10))):=L.run _ 1 rfl _ _
theorem y37:LH [a0] [z0] (.im (.zle (.c 0) (.v 0)) (.im (.zeq (.n (.v 0)) (.a (.c 9) (.v 0))) (.lt (.c 0) (.v 0)))):=L.run _ 1 rfl _ _
theorem y38:LH [a0] [] (.im (.no (.le (.c 2) (.v 0))) (.im (.lt (.c 0) (.v 0)) (.eq (.v 0) (.c 1)))):=L.run _ 1 rfl _ _
theorem y39:LH [a0] [z0] (.im (.zlt (.v 0) (.c 2)) (.im (.zeq (.n (.v 0)) (.a (.c 9) (.v 0))) (.le (.v 0) (.c 10)))):=L.run _ 1 rfl _ _
theorem y40:LH [a0] [z0] (.im (.zle (.c 0) (.v 0)) (.im (.zeq (.n (.v 0)) (.a (.c 9) (.v 0))) (.le (.c 2) (.v 0)))):=L.run _ 1 rfl _ _
theorem y41:LH [a0] [z0] (.im (.zlt (.v 0) (.c 2)) (.im (.zeq (.n (.v 0)) (.a (.c 9) (.v 0))) (.le (.v 0) (.c 900)))):=L.run _ 1 rfl _ _
theorem y42:LH [a0] [z0] (.im (.zle (.c 0) (.v 0)) (.im (.zeq (.n (.v 0)) (.a (.c 11) (.v 0))) (.lt (.c 10) (.v 0)))):=L.run _ 1 rfl _ _
theorem y43:LH [a0] [z0] (.im (.zlt (.v 0) (.c 30)) (.im (.zeq (.n (.v 0)) (.a (.c 11) (.v 0))) (.le (.v 0) (.c 40)))):=L.run _ 1 rfl _ _
theorem y44:LH [a0] [z0] (.im (.zle (.c 0) (.v 0)) (.im (.zeq (.n (.v 0)) (.a (.c 11) (.v 0))) (.le (.c 2) (.v 0)))):=L.run _ 1 rfl _ _
theorem y45:LH [a0] [z0] (.im (.zlt (.v 0) (.c 30)) (.im (.zeq (.n (.v 0)) (.a (.c 11) (.v 0))) (.le (.v 0) (.c 900)))):=L.run _ 1 rfl _ _
theorem y46:LH [a0] [] (.le (.a (.v 0) (.c 1)) (.a (.a (.v 0) (.c 1)) (.c 1))):=L.run _ 1 rfl _ _
theorem y47:LH [a0,a1,a2,a3] [] (.im (.le (.v 0) (.a (.v 1) (.v 2))) (.im (.le (.v 1) (.a (.v 3) (.c 1))) (.le (.v 0) (.a (.v 3) (.a (.v 2) (.c 1)))))):=L.run _ 4 rfl _ _
theorem y48:LH [a0,a1] [] (.im (.le (.v 0) (.a (.v 1) (.c 1))) (.le (.a (.v 0) (.c 1)) (.a (.a (.v 1) (.c 1)) (.c 1)))):=L.run _ 2 rfl _ _
theorem y49:LH [a0] [] (.eq (.a (.c 2) (.m 2 (.v 0))) (.m 2 (.a (.v 0) (.c 1)))):=L.run _ 1 rfl _ _
theorem y50:LH [a0,a1,a2] [] (.im (.lt (.a (.v 0) (.m 2 (.a (.v 1) (.c 1)))) (.v 2)) (.lt (.a (.v 0) (.c 2)) (.v 2))):=L.run _ 3 rfl _ _
theorem y51:LH [a0,a1] [] (.im (.lt (.a (.v 0) (.c 2)) (.v 1)) (.lt (.v 0) (.v 1))):=L.run _ 2 rfl _ _
theorem y52:LH [a0,a1,a2,a3] [] (.im (.lt (.a (.v 0) (.m 2 (.a (.v 1) (.c 1)))) (.v 2)) (.im (.le (.v 3) (.a (.v 0) (.a (.a (.c 0) (.c 1)) (.c 1)))) (.lt (.a (.v 3) (.m 2 (.v 1))) (.v 2)))):=L.run _ 4 rfl _ _
theorem y53:LH [a0,a1,a2] [] (.im (.lt (.a (.v 0) (.c 2)) (.v 1)) (.im (.le (.v 2) (.a (.v 0) (.c 1))) (.lt (.v 2) (.v 1)))):=L.run _ 3 rfl _ _
theorem y54:LH [a0,a1] [] (.im (.le (.a (.v 0) (.v 1)) (.c 1000)) (.le (.a (.v 0) (.v 1)) (.c 16777216))):=L.run _ 2 rfl _ _
theorem y55:LH [a0,a1] [] (.im (.le (.v 0) (.c 2)) (.im (.le (.v 1) (.c 900)) (.le (.a (.v 1) (.v 0)) (.c 1000)))):=L.run _ 2 rfl _ _
theorem y56:LH [a0,a1] [] (.im (.lt (.a (.v 0) (.c 1)) (.v 1)) (.lt (.v 0) (.v 1))):=L.run _ 2 rfl _ _
theorem y57:LH [a0,a1,a2] [] (.im (.lt (.a (.v 0) (.a (.v 1) (.c 1))) (.v 2)) (.lt (.v 0) (.v 2))):=L.run _ 3 rfl _ _
theorem y58:LH [a0,a1,a2] [] (.im (.lt (.a (.v 0) (.m 2 (.a (.v 1) (.c 1)))) (.v 2)) (.lt (.a (.v 0) (.c 1)) (.v 2))):=L.run _ 3 rfl _ _
theorem y59:LH [a0,a1,a2,a3] [] (.im (.lt (.a (.v 0) (.a (.v 1) (.c 1))) (.v 2)) (.im (.le (.v 3) (.a (.v 0) (.c 1))) (.lt (.a (.v 3) (.v 1)) (.v 2)))):=L.run _ 4 rfl _ _
theorem y60:LH [a0,a1,a2] [] (.im (.lt (.a (.v 0) (.m 2 (.a (.v 1) (.c 1)))) (.v 2)) (.lt (.a (.a (.v 0) (.c 2)) (.m 2 (.v 1))) (.v 2))):=L.run _ 3 rfl _ _
theorem y61:LH [a0] [] (.im (.le (.v 0) (.c 10)) (.le (.m 2 (.v 0)) (.c 900))):=L.run _ 1 rfl _ _
theorem y62:LH [a0,a1,a2] [] (.im (.le (.v 0) (.c 10)) (.im (.le (.a (.v 1) (.a (.v 2) (.c 1))) (.v 0)) (.le (.v 1) (.c 10)))):=L.run _ 3 rfl _ _
theorem y63:LH [a0] [] (.im (.lt (.c 0) (.v 0)) (.lt (.c 0) (.m 2 (.v 0)))):=L.run _ 1 rfl _ _
theorem y64:LH [a0,a1,a2] [] (.im (.le (.a (.v 0) (.a (.v 1) (.c 1))) (.v 2)) (.lt (.v 0) (.v 2))):=L.run _ 3 rfl _ _
theorem y65:LH [a0] [] (.im (.le (.v 0) (.c 10)) (.lt (.m 2 (.v 0)) (.c 1000))):=L.run _ 1 rfl _ _
theorem y66:LH [a0,a1,a2,a3] [] (.im (.eq (.v 0) (.v 1)) (.im (.le (.a (.v 2) (.a (.v 3) (.c 1))) (.v 1)) (.lt (.v 2) (.v 0)))):=L.run _ 4 rfl _ _
theorem y67:LH [a0] [] (.le (.a (.c 0) (.v 0)) (.v 0)):=L.run _ 1 rfl _ _
theorem y68:LH [a0] [] (.im (.le (.v 0) (.c 1024)) (.lt (.m 2 (.v 0)) (.c 16777216))):=L.run _ 1 rfl _ _
theorem y69:LH [a0,a1,a2] [] (.im (.le (.a (.v 0) (.a (.v 1) (.c 1))) (.v 2)) (.le (.a (.a (.v 0) (.c 1)) (.v 1)) (.v 2))):=L.run _ 3 rfl _ _
theorem y70:LH [a0] [] (.im (.le (.v 0) (.c 1024)) (.lt (.a (.c 0) (.v 0)) (.c 16777216))):=L.run _ 1 rfl _ _
theorem y71:LH [a0,a1] [] (.im (.le (.a (.v 0) (.a (.v 1) (.c 1))) (.c 20)) (.le (.a (.a (.v 0) (.c 1)) (.v 1)) (.c 20))):=L.run _ 2 rfl _ _
theorem y72:LH [a0,a1] [] (.im (.le (.a (.v 0) (.a (.v 1) (.c 1))) (.c 20)) (.le (.v 0) (.c 20))):=L.run _ 2 rfl _ _
theorem y73:LH [a0] [] (.im (.le (.v 0) (.c 20)) (.le (.a (.c 0) (.s (.v 0) (.c 1))) (.c 20))):=L.run _ 1 rfl _ _
theorem y77:LH [a0] [] (.im (.le (.v 0) (.c 20)) (.le (.s (.v 0) (.c 1)) (.c 20))):=L.run _ 1 rfl _ _
theorem y78:LH [a0,a1] [] (.im (.lt (.v 0) (.c 64)) (.im (.le (.v 1) (.v 0)) (.le (.v 1) (.c 16777216)))):=L.run _ 2 rfl _ _
theorem y80:LH [a0,a1] [] (.im (.le (.v 0) (.c 10)) (.im (.le (.v 1) (.m 2 (.v 0))) (.le (.v 1) (.c 20)))):=L.run _ 2 rfl _ _
theorem y81:LH [a0] [] (.im (.le (.v 0) (.c 20)) (.le (.s (.v 0) (.c 1)) (.c 1000))):=L.run _ 1 rfl _ _
theorem y82:LH [a0] [] (.im (.le (.c 1) (.v 0)) (.zeq (.n (.s (.v 0) (.c 1))) (.s (.n (.v 0)) (.c 1)))):=L.run _ 1 rfl _ _
theorem y83:LH [a0,a1,a2,a3] [] (.im (.eq (.v 0) (.v 1)) (.im (.eq (.v 2) (.v 1)) (.im (.lt (.v 3) (.v 2)) (.lt (.v 3) (.v 0))))):=L.run _ 4 rfl _ _
theorem y84:LH [a0] [] (.im (.le (.v 0) (.c 10)) (.le (.m 2 (.v 0)) (.c 1000))):=L.run _ 1 rfl _ _
theorem y85:LH [a0,a1] [] (.im (.le (.v 0) (.c 10)) (.im (.le (.v 1) (.m 2 (.v 0))) (.le (.s (.v 1) (.c 1)) (.c 20)))):=L.run _ 2 rfl _ _
theorem y87:LH [a0,a1] [] (.im (.le (.v 0) (.c 10)) (.im (.eq (.v 1) (.v 0)) (.lt (.v 1) (.c 1000)))):=L.run _ 2 rfl _ _
theorem y88:LH [a0,a1] [] (.im (.le (.v 0) (.c 10)) (.im (.eq (.v 1) (.v 0)) (.no (.lt (.c 10) (.v 1))))):=L.run _ 2 rfl _ _
theorem y89:LH [a0,a1] [] (.im (.lt (.c 0) (.v 0)) (.im (.eq (.v 1) (.v 0)) (.no (.eq (.v 1) (.c 0))))):=L.run _ 2 rfl _ _
theorem y90:LH [a0,a1] [] (.im (.zeq (.a (.n (.v 0)) (.c 1)) (.a (.n (.a (.v 0) (.a (.v 1) (.c 1)))) (.c 1))) .ff):=L.run _ 2 rfl _ _
theorem y92:LH [a0,a1] [] (.im (.le (.v 0) (.c 1000)) (.im (.eq (.v 1) (.v 0)) (.le (.v 1) (.c 1000)))):=L.run _ 2 rfl _ _
theorem y93:LH [a0,a1,a2,a3] [] (.im (.eq (.v 0) (.v 1)) (.im (.le (.a (.v 2) (.a (.v 3) (.c 1))) (.v 1)) (.le (.v 2) (.v 0)))):=L.run _ 4 rfl _ _
theorem y94:LH [a0] [] (.im (.le (.v 0) (.c 1024)) (.le (.v 0) (.c 16777216))):=L.run _ 1 rfl _ _
theorem y95:LH [a0,a1,a2] [] (.im (.le (.v 0) (.c 10)) (.im (.le (.a (.v 1) (.a (.v 2) (.c 1))) (.v 0)) (.le (.v 1) (.c 100)))):=L.run _ 3 rfl _ _
theorem y96:LH [a0,a1,a2] [] (.im (.le (.a (.v 0) (.a (.v 1) (.c 1))) (.a (.v 2) (.c 1))) (.le (.a (.a (.v 0) (.c 1)) (.v 1)) (.a (.v 2) (.c 1)))):=L.run _ 3 rfl _ _
theorem y97:LH [a0] [] (.im (.le (.v 0) (.c 1024)) (.le (.a (.v 0) (.v 0)) (.c 16777216))):=L.run _ 1 rfl _ _
theorem y98:LH [a0,a1,a2] [] (.im (.lt (.v 0) (.c 20)) (.im (.le (.a (.v 1) (.a (.v 2) (.c 1))) (.a (.v 0) (.c 1))) (.lt (.v 1) (.c 20)))):=L.run _ 3 rfl _ _
theorem y99:LH [a0,a1,a2] [] (.im (.le (.v 0) (.c 10)) (.im (.le (.a (.v 1) (.a (.v 2) (.c 1))) (.v 0)) (.lt (.v 1) (.c 16777216)))):=L.run _ 3 rfl _ _
theorem y100:LH [a0] [] (.im (.le (.v 0) (.c 100)) (.le (.a (.v 0) (.c 1)) (.c 16777216))):=L.run _ 1 rfl _ _
theorem y101:LH [a0,a1] [] (.im (.le (.v 0) (.c 10)) (.im (.le (.v 1) (.m 2 (.v 0))) (.lt (.s (.v 1) (.c 1)) (.c 20)))):=L.run _ 2 rfl _ _
theorem y102:LH [a0] [] (.im (.lt (.c 0) (.v 0)) (.im (.eq (.c 0) (.v 0)) .ff)):=L.run _ 1 rfl _ _
theorem y103:LH [a0] [] (.im (.le (.v 0) (.c 10)) (.le (.v 0) (.c 1000))):=L.run _ 1 rfl _ _
theorem y104:LH [a0] [] (.le (.a (.c 0) (.a (.s (.v 0) (.c 1)) (.c 1))) (.a (.s (.v 0) (.c 1)) (.c 1))):=L.run _ 1 rfl _ _
theorem y105:LH [a0,a1,a2] [] (.im (.le (.v 0) (.c 10)) (.im (.lt (.v 1) (.c 64)) (.im (.le (.v 2) (.m 2 (.v 0))) (.lt (.a (.v 1) (.a (.s (.v 2) (.c 1)) (.c 1))) (.c 16777216))))):=L.run _ 3 rfl _ _
theorem y106:LH [a0,a1] [] (.im (.le (.v 0) (.c 10)) (.im (.le (.v 1) (.m 2 (.v 0))) (.le (.a (.s (.v 1) (.c 1)) (.c 1)) (.c 1000)))):=L.run _ 2 rfl _ _
theorem y107:LH [] [] (.le (.c 7) (.c 20)):=L.run _ 0 rfl _ _
theorem y110:LH [a0] [] (.im (.eq (.v 0) (.c 7)) (.lt (.c 1) (.v 0))):=L.run _ 1 rfl _ _
theorem y112:LH [a0] [] (.im (.le (.v 0) (.c 5)) (.lt (.v 0) (.c 100))):=L.run _ 1 rfl _ _
theorem y114:LH [a0,a1,a2] [z0] (.im (.zlt (.v 0) (.c 4)) (.im (.zeq (.n (.v 0)) (.a (.c 1) (.v 0))) (.im (.le (.v 1) (.c 5)) (.im (.eq (.v 2) (.v 1)) (.lt (.a (.v 2) (.s (.v 0) (.c 1))) (.c 100)))))):=L.run _ 3 rfl _ _
theorem y115:LH [a0,a1,a2,a3] [z0] (.im (.zlt (.v 0) (.c 4)) (.im (.zeq (.n (.v 0)) (.a (.c 1) (.v 0))) (.im (.le (.v 1) (.c 5)) (.im (.eq (.v 2) (.v 1)) (.im (.le (.v 3) (.a (.v 2) (.s (.v 0) (.c 1)))) (.le (.v 3) (.c 8))))))):=L.run _ 4 rfl _ _
theorem y117:LH [a0] [] (.im (.le (.v 0) (.c 5)) (.le (.v 0) (.c 1000))):=L.run _ 1 rfl _ _
theorem y126:LH [] [z0,z1,z2] (.zeq (.a (.a (.v 0) (.v 1)) (.v 2)) (.a (.v 0) (.a (.v 1) (.v 2)))):=L.run _ 3 rfl _ _
theorem y129:LH [] [z0,z1,z2] (.zeq (.a (.v 0) (.a (.v 1) (.v 2))) (.a (.a (.v 0) (.v 1)) (.v 2))):=L.run _ 3 rfl _ _
theorem y130:LH [] [z0,z1] (.im (.zeq (.a (.v 0) (.c 2)) (.v 1)) (.zeq (.v 0) (.s (.v 1) (.c 2)))):=L.run _ 2 rfl _ _
theorem y131:LH [] [z0,z1] (.im (.zeq (.v 0) (.s (.v 1) (.c 2))) (.zeq (.a (.v 0) (.c 2)) (.v 1))):=L.run _ 2 rfl _ _
theorem y132:LH [] [z0,z1] (.im (.zeq (.s (.v 0) (.c 2)) (.v 1)) (.zeq (.v 0) (.a (.v 1) (.c 2)))):=L.run _ 2 rfl _ _
theorem y133:LH [] [z0] (.zeq (.s (.a (.v 0) (.c 2)) (.c 2)) (.v 0)):=L.run _ 1 rfl _ _
theorem y134:LH [] [z0,z1] (.im (.zeq (.v 0) (.a (.v 1) (.c 2))) (.zeq (.s (.v 0) (.c 2)) (.v 1))):=L.run _ 2 rfl _ _
theorem y135:LH [] [z0] (.zeq (.a (.s (.v 0) (.c 2)) (.c 2)) (.v 0)):=L.run _ 1 rfl _ _
theorem y136:LH [] [z0,z1,z2] (.zeq (.a (.a (.g (.v 0)) (.a (.g (.v 0)) (.c 0))) (.s (.g (.v 1)) (.v 2))) (.s (.g (.a (.v 0) (.v 1))) (.a (.v 0) (.v 2)))):=L.run _ 3 rfl _ _
theorem y138:LH [] [z0,z1,z2] (.zeq (.a (.a (.g (.v 0)) (.a (.c 0) (.c 0))) (.s (.g (.v 1)) (.v 2))) (.s (.g (.a (.v 0) (.v 1))) (.a (.c 0) (.v 2)))):=L.run _ 3 rfl _ _
theorem y139:LH [] [z0,z1,z2] (.zeq (.a (.a (.c 0) (.a (.g (.v 0)) (.c 0))) (.s (.g (.v 1)) (.v 2))) (.s (.g (.a (.c 0) (.v 1))) (.a (.v 0) (.v 2)))):=L.run _ 3 rfl _ _
theorem y140:LH [] [z0,z1,z2] (.zeq (.a (.a (.v 0) (.m (1) (.v 1))) (.v 2)) (.a (.a (.v 0) (.v 2)) (.v 1))):=L.run _ 3 rfl _ _
theorem y141:LH [] [z0,z1,z2] (.zeq (.a (.a (.v 0) (.a (.v 1) (.c 0))) (.v 2)) (.a (.a (.v 0) (.v 1)) (.v 2))):=L.run _ 3 rfl _ _
theorem y142:LH [] [z0,z1,z2,z3] (.zeq (.a (.a (.v 0) (.v 1)) (.a (.v 2) (.v 3))) (.a (.a (.v 0) (.v 2)) (.a (.v 1) (.v 3)))):=L.run _ 4 rfl _ _
theorem y143:LH [] [z0,z1] (.zeq (.a (.a (.c 0) (.a (.c 0) (.c 0))) (.s (.g (.v 0)) (.v 1))) (.s (.g (.a (.c 0) (.v 0))) (.a (.c 0) (.v 1)))):=L.run _ 2 rfl _ _
theorem y144:LH [] [z0,z1] (.zeq (.a (.a (.v 0) (.c 4)) (.v 1)) (.a (.a (.v 0) (.v 1)) (.c 4))):=L.run _ 2 rfl _ _
theorem y145:LH [] [z0] (.zeq (.a (.g (.v 0)) (.c 0)) (.s (.s (.g (.v 0)) (.c 0)) (.c 0))):=L.run _ 1 rfl _ _
theorem y146:LH [] [z0] (.zeq (.s (.v 0) (.m (2) (.n (.c 0)))) (.v 0)):=L.run _ 1 rfl _ _
theorem y147:LH [] [z0,z1,z2] (.im (.zeq (.v 0) (.s (.v 1) (.v 2))) (.zeq (.a (.v 0) (.v 2)) (.v 1))):=L.run _ 3 rfl _ _
theorem y148:LH [] [] (.zeq (.a (.c 0) (.c 0)) (.s (.s (.g (.c 0)) (.c 0)) (.c 0))):=L.run _ 0 rfl _ _
theorem y149:LH [] [z0,z1,z2] (.im (.no (.zeq (.v 0) (.s (.v 1) (.v 2)))) (.no (.zeq (.a (.v 0) (.v 2)) (.v 1)))):=L.run _ 3 rfl _ _
theorem y150:LH [a0] [z0] (.zeq (.a (.v 0) (.m (4) (.n (.a (.v 0) (.c 1))))) (.a (.a (.v 0) (.m (4) (.n (.v 0)))) (.c 4))):=L.run _ 1 rfl _ _
theorem y151:LH [a0] [z0] (.zeq (.a (.s (.v 0) (.m (2) (.n (.v 0)))) (.m (4) (.n (.c 0)))) (.s (.v 0) (.m (2) (.n (.v 0))))):=L.run _ 1 rfl _ _
theorem y152:LH [] [z0] (.zeq (.a (.v 0) (.c 2)) (.s (.v 0) (.c (-2)))):=L.run _ 1 rfl _ _
theorem y153:LH [] [z0,z1,z2,z3] (.zeq (.a (.g (.a (.v 0) (.v 1))) (.s (.s (.g (.v 1)) (.v 2)) (.v 3))) (.s (.s (.g (.v 0)) (.a (.v 1) (.v 2))) (.a (.v 1) (.v 3)))):=L.run _ 4 rfl _ _
theorem y154:LH [a0] [z0] (.zeq (.a (.s (.v 0) (.m (2) (.n (.a (.v 0) (.c 1))))) (.c 4)) (.a (.s (.v 0) (.m (2) (.n (.v 0)))) (.c 2))):=L.run _ 1 rfl _ _
theorem y155:LH [] [z0,z1,z2,z3] (.zeq (.a (.g (.a (.v 0) (.v 1))) (.s (.s (.g (.c 0)) (.v 2)) (.v 3))) (.s (.s (.g (.v 0)) (.a (.v 1) (.v 2))) (.a (.c 0) (.v 3)))):=L.run _ 4 rfl _ _
theorem y156:LH [a0] [z0] (.zeq (.s (.v 0) (.m (2) (.n (.a (.v 0) (.c 1))))) (.a (.s (.v 0) (.m (2) (.n (.v 0)))) (.c (-2)))):=L.run _ 1 rfl _ _
theorem y157:LH [] [z0,z1,z2] (.zeq (.a (.c 0) (.s (.s (.g (.v 0)) (.v 1)) (.v 2))) (.s (.s (.g (.c 0)) (.a (.c 0) (.v 1))) (.a (.v 0) (.v 2)))):=L.run _ 3 rfl _ _
theorem y158:LH [] [z0,z1] (.zeq (.s (.s (.g (.c 0)) (.v 0)) (.v 1)) (.s (.g (.v 1)) (.v 0))):=L.run _ 2 rfl _ _
theorem y159:LH [] [z0,z1] (.zeq (.a (.c 0) (.s (.s (.g (.c 0)) (.v 0)) (.v 1))) (.s (.s (.g (.c 0)) (.a (.c 0) (.v 0))) (.a (.c 0) (.v 1)))):=L.run _ 2 rfl _ _
theorem y160:LH [a0,a1] [] (.im (.lt (.v 0) (.a (.v 1) (.c 0))) (.lt (.v 0) (.v 1))):=L.run _ 2 rfl _ _
theorem y161:LH [a0,a1,a2] [] (.im (.le (.a (.v 0) (.c 1)) (.v 1)) (.im (.lt (.v 2) (.v 0)) (.lt (.v 2) (.v 1)))):=L.run _ 3 rfl _ _
theorem y162:LH [] [z0,z1,z2,z3] (.zeq (.s (.g (.a (.v 0) (.v 1))) (.a (.v 2) (.v 3))) (.a (.s (.g (.v 0)) (.v 2)) (.s (.g (.v 1)) (.v 3)))):=L.run _ 4 rfl _ _
theorem y163:LH [] [z0,z1] (.im (.zeq (.a (.v 0) (.c 3)) (.v 1)) (.zeq (.a (.v 0) (.c 1)) (.s (.v 1) (.c 2)))):=L.run _ 2 rfl _ _
theorem y164:LH [] [z0] (.zeq (.s (.a (.v 0) (.m (2) (.c 0))) (.c 0)) (.a (.v 0) (.m (3) (.c 0)))):=L.run _ 1 rfl _ _
theorem y165:LH [] [z0,z1] (.im (.zeq (.a (.v 0) (.c 3)) (.v 1)) (.no (.zeq (.a (.v 0) (.c 1)) (.a (.v 1) (.c 2))))):=L.run _ 2 rfl _ _
theorem y166:LH [] [z0,z1] (.im (.zeq (.a (.v 0) (.c 3)) (.v 1)) (.no (.zeq (.s (.v 0) (.c 1)) (.v 1)))):=L.run _ 2 rfl _ _
theorem y167:LH [] [z0,z1] (.im (.no (.zeq (.a (.v 0) (.c 3)) (.v 1))) (.no (.zeq (.a (.v 0) (.c 1)) (.s (.v 1) (.c 2))))):=L.run _ 2 rfl _ _
theorem y168:LH [] [z0,z1] (.im (.zeq (.s (.v 0) (.c 1)) (.v 1)) (.zeq (.a (.v 0) (.c 1)) (.a (.v 1) (.c 2)))):=L.run _ 2 rfl _ _
theorem y169:LH [] [z0,z1] (.im (.no (.zeq (.s (.v 0) (.c 1)) (.v 1))) (.no (.zeq (.a (.v 0) (.c 1)) (.a (.v 1) (.c 2))))):=L.run _ 2 rfl _ _
theorem y170:LH [] [z0,z1] (.zeq (.a (.a (.m (-1) (.v 0)) (.m (-1) (.v 1))) (.v 1)) (.g (.v 0))):=L.run _ 2 rfl _ _
theorem y171:LH [a0,a1] [z0] (.zeq (.s (.a (.v 0) (.m (2) (.a (.n (.v 0)) (.c 1)))) (.a (.n (.v 1)) (.c 1))) (.a (.s (.a (.v 0) (.m (2) (.n (.v 0)))) (.n (.v 1))) (.c 1))):=L.run _ 2 rfl _ _
theorem y172:LH [a0,a1] [z0] (.zeq (.s (.a (.v 0) (.m (2) (.n (.v 0)))) (.a (.n (.v 1)) (.c 1))) (.s (.s (.a (.v 0) (.m (2) (.n (.v 0)))) (.n (.v 1))) (.c 1))):=L.run _ 2 rfl _ _
theorem y173:LH [a0,a1] [z0] (.zeq (.s (.a (.a (.v 0) (.c 3)) (.m (2) (.n (.v 0)))) (.n (.v 1))) (.a (.s (.a (.v 0) (.m (2) (.n (.v 0)))) (.n (.v 1))) (.c 3))):=L.run _ 2 rfl _ _
theorem y174:LH [] [z0] (.zeq (.g (.v 0)) (.m (-1) (.v 0))):=L.run _ 1 rfl _ _
theorem y175:LH [a0,a1] [] (.im (.le (.v 0) (.c 10)) (.im (.le (.v 1) (.a (.m 5 (.v 0)) (.c 1))) (.lt (.v 1) (.c 64)))):=L.run _ 2 rfl _ _
theorem y176:LH [] [z0,z1] (.zeq (.a (.m (-1) (.v 0)) (.g (.v 1))) (.g (.a (.v 0) (.v 1)))):=L.run _ 2 rfl _ _
theorem y177:LH [a0] [z0] (.zeq (.a (.v 0) (.m (3) (.n (.a (.v 0) (.c 1))))) (.a (.a (.v 0) (.c 3)) (.m (3) (.n (.v 0))))):=L.run _ 1 rfl _ _
theorem y178:LH [a0,a1] [] (.im (.lt (.m 2 (.v 0)) (.v 1)) (.no (.le (.v 1) (.m 2 (.v 0))))):=L.run _ 2 rfl _ _
theorem y179:LH [a0,a1] [] (.im (.le (.v 0) (.v 1)) (.le (.m 2 (.v 0)) (.m 2 (.v 1)))):=L.run _ 2 rfl _ _
theorem y180:LH [a0,a1,a2] [] (.im (.le (.v 0) (.m 2 (.v 1))) (.le (.v 0) (.m 2 (.a (.v 1) (.v 2))))):=L.run _ 3 rfl _ _
theorem y181:LH [a0] [] (.le (.a (.m 2 (.v 0)) (.c 1)) (.m 2 (.a (.v 0) (.c 1)))):=L.run _ 1 rfl _ _
theorem y182:LH [a0] [] (.eq (.a (.m 2 (.v 0)) (.c 2)) (.m 2 (.a (.v 0) (.c 1)))):=L.run _ 1 rfl _ _
theorem y183:LH [a0,a1] [] (.im (.lt (.a (.m 2 (.v 0)) (.c 2)) (.v 1)) (.lt (.m 2 (.a (.v 0) (.c 1))) (.v 1))):=L.run _ 2 rfl _ _
theorem y184:LH [a0] [] (.eq (.m 2 (.a (.v 0) (.c 1))) (.a (.a (.m 2 (.v 0)) (.c 1)) (.c 1))):=L.run _ 1 rfl _ _
theorem y185:LH [a0,a1,a2] [] (.im (.le (.a (.a (.v 0) (.v 1)) (.c 1)) (.v 2)) (.lt (.a (.v 0) (.v 1)) (.v 2))):=L.run _ 3 rfl _ _
theorem y186:LH [a0,a1] [] (.im (.eq (.v 0) (.v 1)) (.le (.v 1) (.v 0))):=L.run _ 2 rfl _ _
theorem y187:LH [a0] [] (.im (.lt (.c 0) (.v 0)) (.no (.eq (.v 0) (.c 0)))):=L.run _ 1 rfl _ _
theorem y188:LH [a0,a1,a2] [] (.im (.le (.a (.a (.v 0) (.v 1)) (.c 1)) (.v 2)) (.le (.a (.v 0) (.v 1)) (.v 2))):=L.run _ 3 rfl _ _
theorem y189:LH [a0] [] (.lt (.m 2 (.v 0)) (.a (.m 2 (.v 0)) (.c 1))):=L.run _ 1 rfl _ _
theorem y190:LH [a0,a1] [] (.im (.le (.a (.v 0) (.c 1)) (.v 1)) (.le (.a (.m 2 (.v 0)) (.c 1)) (.m 2 (.v 1)))):=L.run _ 2 rfl _ _
theorem y191:LH [a0,a1] [] (.im (.lt (.v 0) (.a (.m 2 (.v 1)) (.c 1))) (.le (.v 0) (.m 2 (.v 1)))):=L.run _ 2 rfl _ _
theorem y192:LH [a0] [z0] (.im (.zeq (.v 0) (.n (.a (.m 2 (.v 0)) (.c 1)))) (.im (.zeq (.v 0) (.c 0)) .ff)):=L.run _ 1 rfl _ _
theorem y193:LH [a0,a1] [] (.im (.no (.eq (.v 0) (.a (.m 2 (.v 1)) (.c 1)))) (.im (.no (.eq (.v 0) (.a (.m 2 (.v 1)) (.c 2)))) (.im (.le (.a (.m 2 (.v 1)) (.c 1)) (.v 0)) (.lt (.a (.m 2 (.v 1)) (.c 2)) (.v 0))))):=L.run _ 2 rfl _ _
theorem y194:LH [a0,a1] [z0] (.im (.lt (.v 0) (.a (.m 2 (.v 1)) (.c 1))) (.im (.zeq (.v 0) (.n (.a (.m 2 (.v 1)) (.c 1)))) (.im (.zeq (.v 0) (.n (.v 0))) .ff))):=L.run _ 2 rfl _ _
theorem y195:LH [a0,a1] [] (.im (.le (.a (.m 2 (.v 0)) (.c 1)) (.v 1)) (.lt (.m 2 (.v 0)) (.v 1))):=L.run _ 2 rfl _ _
theorem y196:LH [a0] [] (.im (.no (.eq (.v 0) (.c 0))) (.lt (.c 0) (.m 2 (.v 0)))):=L.run _ 1 rfl _ _
theorem y197:LH [a0] [] (.lt (.m 2 (.v 0)) (.a (.m 2 (.v 0)) (.c 2))):=L.run _ 1 rfl _ _
theorem y198:LH [a0] [] (.eq (.a (.a (.a (.c 1) (.v 0)) (.c 0)) (.c 1)) (.a (.c 1) (.a (.v 0) (.c 1)))):=L.run _ 1 rfl _ _
theorem y199:LH [a0,a1] [z0] (.im (.zeq (.v 0) (.n (.a (.m 2 (.v 0)) (.c 1)))) (.im (.zeq (.v 0) (.c 0)) (.eq (.v 1) (.a (.m 2 (.v 0)) (.c 1))))):=L.run _ 2 rfl _ _
theorem y200:LH [a0] [] (.eq (.a (.a (.a (.c 1) (.v 0)) (.c 0)) (.c 0)) (.a (.c 1) (.a (.v 0) (.c 0)))):=L.run _ 1 rfl _ _
theorem y201:LH [a0,a1] [z0] (.im (.zeq (.v 0) (.n (.a (.m 2 (.v 0)) (.c 1)))) (.im (.zeq (.v 0) (.n (.v 1))) (.eq (.v 1) (.a (.m 2 (.v 0)) (.c 1))))):=L.run _ 2 rfl _ _
theorem y202:LH [a0,a1] [z0] (.im (.zeq (.v 0) (.n (.a (.m 2 (.v 0)) (.c 2)))) (.im (.zeq (.v 0) (.c 0)) (.eq (.v 1) (.a (.m 2 (.v 0)) (.c 2))))):=L.run _ 2 rfl _ _
theorem y203:LH [a0,a1] [z0] (.im (.zeq (.v 0) (.n (.a (.m 2 (.v 0)) (.c 2)))) (.im (.zeq (.v 0) (.n (.v 1))) (.eq (.v 1) (.a (.m 2 (.v 0)) (.c 2))))):=L.run _ 2 rfl _ _
theorem y204:LH [a0,a1] [] (.im (.eq (.v 0) (.a (.m 2 (.v 1)) (.c 2))) (.no (.eq (.v 0) (.a (.m 2 (.v 1)) (.c 1))))):=L.run _ 2 rfl _ _
theorem y205:LH [a0] [] (.no (.zeq (.n (.a (.m 2 (.v 0)) (.c 2))) (.n (.a (.m 2 (.v 0)) (.c 1))))):=L.run _ 1 rfl _ _
theorem y206:LH [a0] [] (.no (.zeq (.c 0) (.n (.a (.m 2 (.v 0)) (.c 2))))):=L.run _ 1 rfl _ _
theorem y207:LH [a0,a1] [] (.im (.lt (.v 0) (.v 1)) (.im (.le (.m 2 (.v 1)) (.a (.m 2 (.v 0)) (.c 2))) (.eq (.m 2 (.v 1)) (.a (.m 2 (.v 0)) (.c 2))))):=L.run _ 2 rfl _ _
theorem y208:LH [a0,a1] [] (.im (.lt (.v 0) (.v 1)) (.lt (.c 0) (.m 2 (.v 1)))):=L.run _ 2 rfl _ _
theorem y209:LH [a0,a1,a2] [] (.im (.lt (.v 0) (.m 2 (.v 1))) (.im (.le (.m 2 (.v 1)) (.a (.m 2 (.v 2)) (.c 2))) (.no (.eq (.v 0) (.a (.m 2 (.v 2)) (.c 2)))))):=L.run _ 3 rfl _ _
theorem y210:LH [a0] [] (.no (.zeq (.c 0) (.n (.a (.m 2 (.v 0)) (.c 1))))):=L.run _ 1 rfl _ _
end Mine.Internal
end
section
namespace Mine.Internal
variable {a0 a1 a2:Nat} {z0 z1:Int}
theorem w1:LH [a0,a1] [z0,z1] (.im (.le (.v 0) (.m 2 (.v 1))) (.im (.zle (.g (.n (.v 1))) (.v 0)) (.im (.zle (.s (.v 0) (.m (2) (.n (.s (.v 0) (.c 1))))) (.v 1)) (.zle (.g (.m (5) (.n (.v 1)))) (.v 1))))):=L.run _ 2 rfl _ _
theorem w2:LH [a0,a1] [z0,z1] (.im (.le (.v 0) (.m 2 (.v 1))) (.im (.zle (.v 0) (.n (.v 1))) (.im (.zle (.v 1) (.a (.v 0) (.m (2) (.n (.s (.v 0) (.c 1)))))) (.zle (.v 1) (.m (5) (.n (.v 1))))))):=L.run _ 2 rfl _ _
theorem w3:LH [a0] [z0,z1] (.zeq (.s (.v 0) (.n (.v 0))) (.a (.s (.v 0) (.v 1)) (.s (.v 1) (.n (.v 0))))):=L.run _ 2 rfl _ _
theorem w4:LH [a0,a1,a2] [] (.im (.lt (.v 0) (.c 20)) (.im (.le (.a (.v 1) (.a (.v 2) (.c 1))) (.a (.v 0) (.c 1))) (.le (.v 1) (.c 20)))):=L.run _ 3 rfl _ _
theorem w5:LH [a0,a1] [] (.im (.lt (.v 0) (.c 20)) (.zle (.s (.n (.v 0)) (.n (.v 1))) (.n (.c 20)))):=L.run _ 2 rfl _ _
theorem w6:LH [a0,a1,a2] [] (.im (.le (.a (.v 0) (.a (.v 1) (.c 1))) (.a (.v 2) (.c 1))) (.zle (.g (.s (.n (.v 2)) (.n (.v 0)))) (.n (.c 20)))):=L.run _ 3 rfl _ _
theorem w7:LH [a0,a1,a2] [] (.im (.lt (.v 0) (.c 20)) (.im (.le (.a (.v 1) (.a (.v 2) (.c 1))) (.a (.v 0) (.c 1))) (.le (.a (.v 1) (.c 1)) (.c 21)))):=L.run _ 3 rfl _ _
theorem w8:LH [a0,a1] [z0] (.zle (.s (.v 0) (.m (2) (.n (.v 0)))) (.a (.s (.v 0) (.m (2) (.n (.v 0)))) (.m (4) (.n (.v 1))))):=L.run _ 2 rfl _ _
theorem w9:LH [a0,a1] [z0] (.im (.lt (.v 0) (.a (.v 1) (.c 1))) (.zle (.a (.s (.v 0) (.m (2) (.n (.v 1)))) (.m (4) (.n (.v 0)))) (.a (.v 0) (.m (2) (.n (.v 1)))))):=L.run _ 2 rfl _ _
theorem w10:LH [a0,a1] [z0] (.zeq (.s (.a (.s (.v 0) (.m (2) (.n (.v 0)))) (.m (4) (.n (.v 1)))) (.v 0)) (.m (2) (.s (.m (2) (.n (.v 1))) (.n (.v 0))))):=L.run _ 2 rfl _ _
theorem w11:LH [a0] [z0] (.im (.le (.v 0) (.c 10)) (.im (.zle (.v 0) (.n (.v 0))) (.zle (.v 0) (.n (.c 1000))))):=L.run _ 1 rfl _ _
theorem w12:LH [a0] [z0] (.im (.le (.v 0) (.c 10)) (.im (.zle (.g (.n (.v 0))) (.v 0)) (.zle (.g (.v 0)) (.n (.c 1000))))):=L.run _ 1 rfl _ _
theorem w13:LH [a0] [z0] (.im (.zlt (.v 0) (.c 6)) (.im (.zeq (.n (.v 0)) (.v 0)) (.le (.v 0) (.c 5)))):=L.run _ 1 rfl _ _
theorem w14:LH [a0] [] (.im (.zeq (.n (.v 0)) (.c 0)) (.le (.v 0) (.c 5))):=L.run _ 1 rfl _ _
theorem w15:LH [] [z0,z1] (.im (.zeq (.v 0) (.v 1)) (.zle (.s (.v 1) (.m (2) (.n (.c 0)))) (.v 0))):=L.run _ 2 rfl _ _
theorem w16:LH [] [z0,z1] (.im (.zeq (.v 0) (.v 1)) (.zle (.v 0) (.a (.v 1) (.m (2) (.n (.c 0)))))):=L.run _ 2 rfl _ _
theorem w17:LH [] [z0,z1] (.im (.zeq (.v 0) (.v 1)) (.zeq (.s (.v 0) (.v 1)) (.m (2) (.c 0)))):=L.run _ 2 rfl _ _
theorem w18:LH [a0] [z0,z1] (.im (.zle (.s (.v 0) (.m (2) (.n (.v 0)))) (.s (.v 1) (.c 2))) (.zle (.s (.v 0) (.m (2) (.n (.a (.v 0) (.c 1))))) (.v 1))):=L.run _ 2 rfl _ _
theorem w19:LH [a0] [z0,z1] (.im (.zle (.s (.v 0) (.c 2)) (.a (.v 1) (.m (2) (.n (.v 0))))) (.zle (.v 0) (.a (.v 1) (.m (2) (.n (.a (.v 0) (.c 1))))))):=L.run _ 2 rfl _ _
theorem w20:LH [] [z0,z1] (.zeq (.s (.v 0) (.v 1)) (.a (.s (.s (.v 0) (.c 2)) (.v 1)) (.c 2))):=L.run _ 2 rfl _ _
theorem w21:LH [a0] [z0,z1] (.im (.zle (.s (.v 0) (.m (2) (.n (.v 0)))) (.a (.v 1) (.c 2))) (.zle (.s (.v 0) (.m (2) (.n (.a (.v 0) (.c 1))))) (.v 1))):=L.run _ 2 rfl _ _
theorem w22:LH [a0] [z0,z1] (.im (.zle (.a (.v 0) (.c 2)) (.a (.v 1) (.m (2) (.n (.v 0))))) (.zle (.v 0) (.a (.v 1) (.m (2) (.n (.a (.v 0) (.c 1))))))):=L.run _ 2 rfl _ _
theorem w23:LH [] [z0,z1] (.zeq (.s (.v 0) (.v 1)) (.a (.s (.a (.v 0) (.c 2)) (.v 1)) (.c (-2)))):=L.run _ 2 (by decide +kernel) _ _
theorem w24:LH [a0] [z0,z1] (.im (.zle (.g (.n (.v 0))) (.v 0)) (.im (.o (.zeq (.v 1) (.c 1)) (.zeq (.v 1) (.c (-1)))) (.zle (.g (.n (.a (.v 0) (.c 1)))) (.a (.g (.v 1)) (.v 0))))):=L.run _ 2 (by decide +kernel) _ _
theorem w25:LH [a0] [z0,z1] (.im (.zle (.v 0) (.n (.v 0))) (.im (.o (.zeq (.v 1) (.c 1)) (.zeq (.v 1) (.c (-1)))) (.zle (.a (.g (.v 1)) (.v 0)) (.n (.a (.v 0) (.c 1)))))):=L.run _ 2 (by decide +kernel) _ _
theorem w26:LH [a0] [z0,z1] (.im (.zeq (.v 0) (.c 1)) (.zeq (.s (.a (.g (.v 0)) (.v 1)) (.n (.a (.v 0) (.c 1)))) (.a (.s (.v 1) (.n (.v 0))) (.c (-2))))):=L.run _ 2 (by decide +kernel) _ _
theorem w27:LH [a0] [z0,z1] (.im (.zeq (.v 0) (.c (-1))) (.zeq (.s (.a (.g (.v 0)) (.v 1)) (.n (.a (.v 0) (.c 1)))) (.a (.s (.v 1) (.n (.v 0))) (.c 0)))):=L.run _ 2 rfl _ _
theorem w28:LH [a0] [z0,z1] (.im (.zle (.g (.n (.v 0))) (.v 0)) (.im (.o (.zeq (.v 1) (.c 1)) (.zeq (.v 1) (.c (-1)))) (.zle (.g (.n (.a (.v 0) (.c 1)))) (.a (.v 1) (.v 0))))):=L.run _ 2 (by decide +kernel) _ _
theorem w29:LH [a0] [z0,z1] (.im (.zle (.v 0) (.n (.v 0))) (.im (.o (.zeq (.v 1) (.c 1)) (.zeq (.v 1) (.c (-1)))) (.zle (.a (.v 1) (.v 0)) (.n (.a (.v 0) (.c 1)))))):=L.run _ 2 (by decide +kernel) _ _
theorem w30:LH [a0] [z0,z1] (.im (.zeq (.v 0) (.c 1)) (.zeq (.s (.a (.v 0) (.v 1)) (.n (.a (.v 0) (.c 1)))) (.a (.s (.v 1) (.n (.v 0))) (.c 0)))):=L.run _ 2 rfl _ _
theorem w31:LH [a0] [z0,z1] (.im (.zeq (.v 0) (.c (-1))) (.zeq (.s (.a (.v 0) (.v 1)) (.n (.a (.v 0) (.c 1)))) (.a (.s (.v 1) (.n (.v 0))) (.c (-2))))):=L.run _ 2 (by decide +kernel) _ _
theorem w32:LH [a0] [z0,z1] (.im (.zle (.v 0) (.m (5) (.n (.v 0)))) (.im (.zle (.m (2) (.v 1)) (.a (.v 0) (.m (5) (.n (.v 0))))) (.zlt (.v 1) (.n (.a (.m 5 (.v 0)) (.c 1)))))):=L.run _ 2 rfl _ _
theorem w33:LH [a0] [z0] (.zeq (.a (.v 0) (.m (5) (.n (.v 0)))) (.a (.s (.v 0) (.n (.v 0))) (.m (6) (.n (.v 0))))):=L.run _ 1 rfl _ _
theorem w34:LH [a0] [z0,z1] (.im (.zle (.g (.m (5) (.n (.v 0)))) (.v 0)) (.im (.zeq (.a (.v 0) (.m (5) (.n (.v 0)))) (.m (2) (.v 1))) (.zle (.c 0) (.v 1)))):=L.run _ 2 rfl _ _
theorem w35:LH [a0] [z0,z1] (.im (.zeq (.a (.v 0) (.m (5) (.n (.v 0)))) (.m (2) (.v 1))) (.zeq (.a (.g (.m (5) (.n (.v 0)))) (.m (2) (.v 1))) (.v 0))):=L.run _ 2 rfl _ _
theorem w36:LH [a0,a1,a2] [] (.im (.le (.v 0) (.m 2 (.v 1))) (.im (.eq (.a (.m 2 (.v 2)) (.c 1)) (.v 0)) (.lt (.v 2) (.v 1)))):=L.run _ 3 rfl _ _
theorem wa1:LH [a0,a1] [] (.im (.lt (.v 0) (.v 1)) (.lt (.m 2 (.v 0)) (.m 2 (.v 1)))):=L.run _ 2 rfl _ _
theorem wa2:LH [a0,a1] [] (.im (.lt (.v 0) (.v 1)) (.lt (.a (.m 2 (.v 0)) (.c 1)) (.m 2 (.v 1)))):=L.run _ 2 rfl _ _
theorem wa3:LH [a0,a1] [] (.im (.le (.v 0) (.v 1)) (.eq (.a (.v 0) (.s (.v 1) (.v 0))) (.v 1))):=L.run _ 2 rfl _ _
theorem wa4:LH [a0] [] (.im (.le (.v 0) (.c 500)) (.le (.m 2 (.v 0)) (.c 1000))):=L.run _ 1 rfl _ _
theorem wa5:LH [a0,a1,a2] [] (.im (.eq (.a (.v 0) (.a (.v 1) (.c 1))) (.v 2)) (.lt (.v 0) (.v 2))):=L.run _ 3 rfl _ _
theorem wa6:LH [a0,a1,a2] [] (.im (.eq (.a (.v 0) (.a (.v 1) (.c 1))) (.v 2)) (.eq (.a (.a (.v 0) (.c 1)) (.v 1)) (.v 2))):=L.run _ 3 rfl _ _
theorem wa7:LH [a0,a1] [] (.im (.lt (.a (.v 0) (.c 1)) (.a (.v 1) (.c 1))) (.lt (.a (.m 2 (.v 0)) (.c 1)) (.a (.m 2 (.v 1)) (.c 2)))):=L.run _ 2 rfl _ _
theorem wa8:LH [a0] [] (.im (.le (.v 0) (.c 40)) (.le (.v 0) (.c 500))):=L.run _ 1 rfl _ _
theorem wa11:LH [] [z0] (.im (.zle (.c 0) (.v 0)) (.im (.zlt (.v 0) (.c 2)) (.o (.zeq (.v 0) (.c 0)) (.zeq (.v 0) (.c 1))))):=L.run _ 1 rfl _ _
theorem wa12:LH [a0,a1,a2] [] (.im (.le (.v 0) (.v 1)) (.im (.lt (.v 2) (.a (.v 0) (.c 0))) (.im (.zeq (.a (.n (.v 2)) (.c 1)) (.a (.n (.v 1)) (.c 1))) .ff))):=L.run _ 3 rfl _ _
theorem wa20:LH [a0,a1] [] (.im (.le (.v 0) (.c 40)) (.im (.eq (.v 1) (.m 2 (.v 0))) (.lt (.a (.c 0) (.v 1)) (.c 16777216)))):=L.run _ 2 rfl _ _
theorem wa21:LH [a0] [] (.im (.le (.v 0) (.c 40)) (.lt (.v 0) (.c 4611686018427387904))):=L.run _ 1 rfl _ _
theorem wa22:LH [a0] [] (.im (.le (.v 0) (.c 10)) (.le (.v 0) (.c 40))):=L.run _ 1 rfl _ _
theorem wa23:LH [a0] [] (.im (.le (.v 0) (.c 40)) (.le (.v 0) (.c 16777216))):=L.run _ 1 rfl _ _
theorem wa24:LH [a0] [] (.im (.le (.v 0) (.c 10)) (.le (.m 2 (.v 0)) (.c 1000))):=L.run _ 1 rfl _ _
theorem wa25:LH [a0,a1] [] (.im (.le (.v 0) (.c 40)) (.im (.eq (.v 1) (.m 2 (.v 0))) (.le (.v 1) (.c 1000)))):=L.run _ 2 rfl _ _
theorem wa26:LH [a0,a1] [] (.im (.le (.v 0) (.c 40)) (.im (.eq (.v 1) (.m 2 (.v 0))) (.le (.v 1) (.c 80)))):=L.run _ 2 rfl _ _
theorem wa27:LH [a0,a1] [] (.im (.le (.v 0) (.c 40)) (.im (.eq (.v 1) (.v 0)) (.lt (.v 1) (.c 1000)))):=L.run _ 2 rfl _ _
theorem wa28:LH [a0,a1] [] (.im (.le (.v 0) (.c 40)) (.im (.eq (.v 1) (.v 0)) (.le (.v 1) (.c 40)))):=L.run _ 2 rfl _ _
theorem wa29:LH [a0] [] (.im (.le (.v 0) (.c 40)) (.no (.zlt (.c 40) (.n (.v 0))))):=L.run _ 1 rfl _ _
theorem wa30:LH [a0] [] (.im (.le (.v 0) (.c 40)) (.le (.a (.m 2 (.v 0)) (.c 1)) (.c 16777216))):=L.run _ 1 rfl _ _
end Mine.Internal
end
section
namespace Mine.Internal
theorem nb1 {z:Int} {n:Nat} (h0:0<=z) (h:z < n):z.natAbs < n:=by obtain ⟨m,rfl⟩:=Int.eq_ofNat_of_zero_le h0;exact Int.ofNat_lt.1 h
theorem nb {z:Int} {n:Nat} (h0:z<=n) (h:-z<=n):z.natAbs<=n:=by rcases Int.natAbs_eq z with e | e;exact Int.ofNat_le.1 (e ▸ h0);exact Int.ofNat_le.1 (by rw [e,Int.neg_neg] at h;exact h)
theorem m2a {a b c:Int} (h:a % 2=0) (h2:b % 2=0) (e:c=a+b):c % 2=0:=e ▸ Int.emod_eq_zero_of_dvd (Int.dvd_add (Int.dvd_of_emod_eq_zero h) (Int.dvd_of_emod_eq_zero h2))
theorem m2c {c k:Int} (e:c=2*k):c % 2=0:=e ▸ Int.mul_emod_right 2 k
theorem yv7 {a0:Nat}:((a0 % 2)=0)->(((a0:Nat):Int) % 2)=0:=fun h=>congrArg Int.ofNat h
theorem yv8 {a0:Nat}:(((((a0:Nat):Int)+1)-1)).toNat=a0:=congrArg Int.toNat (Int.add_sub_cancel _ 1)
theorem yv9 {a0:Nat}:((a0 % 2)=1)->¬ ((a0 % 2)=0):=fun h q=>absurd (h.symm.trans q) (by decide)
theorem yv10 {a0:Nat}:((a0 % 2)=1)->(((a0:Nat):Int) % 2)=1:=fun h=>congrArg Int.ofNat h
theorem yv11 {z0:Int}:(0<=z0)->((((9+z0)).toNat:Nat):Int)=(9+z0):=fun h=>Int.toNat_of_nonneg (Int.add_nonneg (by decide) h)
theorem yv12 {z0:Int}:(0<=z0)->((((11+z0)).toNat:Nat):Int)=(11+z0):=fun h=>Int.toNat_of_nonneg (Int.add_nonneg (by decide) h)
theorem yv13 {a0 a1 a2:Nat}:(a0<=(2*a1))->(a1<=a2)->a0<=(a2*2):=fun h1 h2=>Nat.le_trans h1 (Nat.mul_comm 2 a1 ▸ Nat.mul_le_mul_right 2 h2)
theorem yv14 {z0:Int}:((z0).natAbs<=4000000000000000000)->¬ (4611686018427387904<=(z0).natAbs):=fun h q=>absurd (Nat.le_trans q h) (by decide)
theorem yv18 {a0 a1:Nat} {z0 z1:Int}:(a0<=(2*a1))->((-((a1:Nat):Int))<=z0)->(z0<=((a1:Nat):Int))->(((z0-((a1:Nat):Int)) % 2)=0)->((z0-((2)*(((a0-1):Nat):Int)))<=z1)->(z1<=(z0+((2)*(((a0-1):Nat):Int))))->(((z1-z0) % 2)=0)->(((-((5)*((a1:Nat):Int)))<=z1)/\(((z1<=((5)*((a1:Nat):Int)))/\(((z1-((a1:Nat):Int)) % 2)=0)))):=fun h1 h2 h3 h4 h5 h6 h7=>⟨by exact w1 h1 h2 h5,by exact w2 h1 h3 h6,m2a h7 h4 (by exact w3)⟩
theorem yv19 {a0:Nat}:((10 < ((a0:Nat):Int))↔(10 < a0)):=Int.ofNat_lt (n:=10)
theorem yv20 {a0:Nat}:((((a0:Nat):Int)=0)↔(a0=0)):=Int.ofNat_inj (n:=0)
theorem yv23 {z0:Int}:(((z0=0)\/(z0=1)))->(z0).natAbs<=4000000000000000000:=fun h=>by rcases h with rfl | rfl<;>decide
theorem yv24 {a0 a1:Nat} {z0:Int}:(a0<=10)->(a1=a0)->((z0).natAbs<=a1)->(z0).natAbs<=4000000000000000000:=fun h e q=>Nat.le_trans q (e ▸ Nat.le_trans h (by decide))
theorem yv25 {z0:Int}:(((z0=0)\/(z0=1)))->((1-((2)*z0))).natAbs<=4000000000000000000:=fun h=>by rcases h with rfl | rfl<;>decide
theorem yv26 {z0:Int}:((z0).natAbs<=2000000000)->(z0).natAbs<=4000000000000000000:=fun h=>Nat.le_trans h (by decide)
theorem yv27 {a0:Nat}:(a0 < 20)->(((a0:Nat):Int)).natAbs<=4000000000000000000:=fun h=>Nat.le_trans (Nat.le_of_lt h) (by decide)
theorem yv28 {a0 a1 a2:Nat}:(a0 < 20)->((a1+(a2+1))<=(a0+1))->(((a1:Nat):Int)).natAbs<=4000000000000000000:=fun h1 h2=>Nat.le_trans (show a1<=20 by exact w4 h1 h2) (by decide)
theorem yv29 {z0:Int}:((z0).natAbs<=1000000)->(z0).natAbs<=4000000000000000000:=fun h=>Nat.le_trans h (by decide)
theorem yv30 {a0 a1 a2:Nat}:(a0 < 20)->((a1+(a2+1))<=(a0+1))->((((a0:Nat):Int)-((a1:Nat):Int))).natAbs<=4000000000000000000:=fun h1 h2=>Nat.le_trans (nb (n:=20) (by exact w5 h1) (by exact w6 h2)) (by decide)
theorem yv31 {a0 a1 a2:Nat}:(a0 < 20)->((a1+(a2+1))<=(a0+1))->¬ (1073741824<=((((a1:Nat):Int)+1)).natAbs):=fun h1 h2 q=>absurd (Nat.le_trans q (show a1+1<=21 by exact w7 h1 h2)) (by decide)
theorem yv32 {a0 a1:Nat} {z0:Int}:(a0 < (a1+1))->(((z0-((2)*((a1:Nat):Int)))<=((z0-((2)*((a1:Nat):Int)))+((4)*((a0:Nat):Int))))/\(((((z0-((2)*((a1:Nat):Int)))+((4)*((a0:Nat):Int)))<=(z0+((2)*((a1:Nat):Int))))/\(((((z0-((2)*((a1:Nat):Int)))+((4)*((a0:Nat):Int)))-z0) % 2)=0)))):=fun h=>⟨by exact w8,by exact w9 h,m2c (k:=2*(a0:Int)-(a1:Int)) (by exact w10)⟩
theorem yv33 {a0:Nat} {z0:Int}:(a0<=10)->((-((a0:Nat):Int))<=z0)->(z0<=((a0:Nat):Int))->(z0).natAbs<=1000:=fun h1 h2 h3=>nb (n:=1000) (by exact w11 h1 h3) (by exact w12 h1 h2)
theorem yv34 {a0 a1:Nat} {z0 z1:Int}:((z0-((2)*(((a0-1):Nat):Int)))<=z1)->(z1<=(z0+((2)*(((a0-1):Nat):Int))))->(((z1-z0) % 2)=0)->(a0<=(2*a1))->((-((a1:Nat):Int))<=z0)->(z0<=((a1:Nat):Int))->(((z0-((a1:Nat):Int)) % 2)=0)->(((-((5)*((a1:Nat):Int)))<=z1)/\(((z1<=((5)*((a1:Nat):Int)))/\(((z1-((a1:Nat):Int)) % 2)=0)))):=fun h5 h6 h7 h1 h2 h3 h4=>yv18 h1 h2 h3 h4 h5 h6 h7
theorem yv37 {z0:Int}:(0<=z0)->(z0 < 6)->(z0).natAbs < 4611686018427387904:=fun h0 h=>Nat.lt_trans (nb1 (n:=6) h0 h) (by decide)
theorem yv38 {a0:Nat} {z0:Int}:(z0 < 6)->(((a0:Nat):Int)=(z0*(1)))->a0<=5:=fun h e=>by rw [Int.mul_one] at e;exact w13 h e
theorem yv39 {a0:Nat} {z0:Int}:(((a0:Nat):Int)=(z0*(0)))->a0<=5:=fun e=>by rw [Int.mul_zero] at e;exact w14 e
theorem yv49 {z0 z1:Int}:(z0=z1)->(((z1-((2)*((0:Nat):Int)))<=z0)/\(((z0<=(z1+((2)*((0:Nat):Int))))/\(((z0-z1) % 2)=0)))):=fun h=>⟨by exact w15 h,by exact w16 h,m2c (k:=0) (by exact w17 h)⟩
theorem yv50 {a0:Nat} {z0 z1:Int}:((z0).natAbs<=a0)->((z1).natAbs<=a0)->(((-z0)-z1)).natAbs<=(2*a0):=fun h1 h2=>Nat.le_trans (Int.natAbs_add_le _ _) (by rw [Int.natAbs_neg,Int.natAbs_neg,Nat.two_mul];exact Nat.add_le_add h1 h2)
theorem yv52 {a0:Nat} {z0 z1:Int}:((z0-((2)*((a0:Nat):Int)))<=(z1-2))->((z1-2)<=(z0+((2)*((a0:Nat):Int))))->((((z1-2)-z0) % 2)=0)->(((z0-((2)*(((a0+1):Nat):Int)))<=z1)/\(((z1<=(z0+((2)*(((a0+1):Nat):Int))))/\(((z1-z0) % 2)=0)))):=fun h1 h2 h3=>⟨by exact w18 h1,by exact w19 h2,m2a h3 (b:=2) rfl (by exact w20)⟩
theorem yv53 {a0 a1:Nat} {z0 z1:Int}:((z0).natAbs<=a0)->((z1).natAbs<=a1)->((z0+z1)).natAbs<=(a1+a0):=fun h1 h2=>Nat.le_trans (Int.natAbs_add_le _ _) (Nat.add_comm a1 a0 ▸ Nat.add_le_add h1 h2)
theorem yv54 {a0:Nat} {z0 z1:Int}:((z0-((2)*((a0:Nat):Int)))<=(z1+2))->((z1+2)<=(z0+((2)*((a0:Nat):Int))))->((((z1+2)-z0) % 2)=0)->(((z0-((2)*(((a0+1):Nat):Int)))<=z1)/\(((z1<=(z0+((2)*(((a0+1):Nat):Int))))/\(((z1-z0) % 2)=0)))):=fun h1 h2 h3=>⟨by exact w21 h1,by exact w22 h2,m2a h3 (b:=-2) rfl (by exact w23)⟩
theorem yv55 {a0:Nat} {z0 z1:Int}:((-((a0:Nat):Int))<=z0)->(z0<=((a0:Nat):Int))->(((z0-((a0:Nat):Int)) % 2)=0)->(((z1=1)\/(z1=(-1))))->(((-(((a0+1):Nat):Int))<=((-z1)+z0))/\(((((-z1)+z0)<=(((a0+1):Nat):Int))/\(((((-z1)+z0)-(((a0+1):Nat):Int)) % 2)=0)))):=fun h1 h2 h3 h4=>h4.elim (fun h=>⟨by exact w24 h1 h4,by exact w25 h2 h4,m2a h3 (b:=-2) rfl (by exact w26 h)⟩) fun h=>⟨by exact w24 h1 h4,by exact w25 h2 h4,m2a h3 (b:=0) rfl (by exact w27 h)⟩
theorem yv56 {a0:Nat} {z0 z1:Int}:((-((a0:Nat):Int))<=z0)->(z0<=((a0:Nat):Int))->(((z0-((a0:Nat):Int)) % 2)=0)->(((z1=1)\/(z1=(-1))))->(((-(((a0+1):Nat):Int))<=(z1+z0))/\((((z1+z0)<=(((a0+1):Nat):Int))/\((((z1+z0)-(((a0+1):Nat):Int)) % 2)=0)))):=fun h1 h2 h3 h4=>h4.elim (fun h=>⟨by exact w28 h1 h4,by exact w29 h2 h4,m2a h3 (b:=0) rfl (by exact w30 h)⟩) fun h=>⟨by exact w28 h1 h4,by exact w29 h2 h4,m2a h3 (b:=-2) rfl (by exact w31 h)⟩
theorem yv57 {a0:Nat} {z0:Int}:(z0<=((5)*((a0:Nat):Int)))->(((z0+((5)*((a0:Nat):Int))) / 2)).toNat < ((5*a0)+1):=fun h=>by have:=Int.mul_ediv_self_le (x:=z0+5*(a0:Int)) (k:=2) (by decide);revert this;generalize (z0+5*(a0:Int)) / 2=q;intro h2;exact Int.toNat_lt' (Nat.succ_pos _) |>.2 (by exact w32 h h2)
theorem yv58 {a0:Nat} {z0:Int}:((-((5)*((a0:Nat):Int)))<=z0)->(((z0-((a0:Nat):Int)) % 2)=0)->((-((5)*((a0:Nat):Int)))+((2)*(((((z0+((5)*((a0:Nat):Int))) / 2)).toNat:Nat):Int)))=z0:=fun h1 h2=>by have e:z0+5*(a0:Int)=2*((z0+5*(a0:Int)) / 2):=(Int.mul_ediv_cancel_of_emod_eq_zero (m2a h2 (b:=6*(a0:Int)) (Int.mul_emod_right 2 (3*(a0:Int)) ▸ by rw [<-Int.mul_assoc];rfl) (by exact w33))).symm;revert e;generalize (z0+5*(a0:Int)) / 2=q;intro e;rw [Int.toNat_of_nonneg (by exact w34 h1 e)];exact w35 e
theorem yv59 {a0:Nat}:((a0 % 2)=0)->¬ (((a0+1) % 2)=0):=fun h=>by rw [Nat.add_mod,h];decide
theorem yv60 {a0:Nat}:((a0 % 2)=1)->((a0+1) % 2)=0:=fun h=>by rw [Nat.add_mod,h]
theorem yv61 {a0:Nat}:((2*a0) % 2)=0:=Nat.mul_mod_right 2 a0
theorem yv62 {a0:Nat}:¬ ((((2*a0)+1) % 2)=0):=by rw [Nat.mul_add_mod];decide
theorem yv63 {a0 a1:Nat}:(a0<=(2*a1))->(¬ ((a0 % 2)=0))->(a0 / 2) < a1:=fun h1 h2=>by have e:=Nat.div_add_mod a0 2;rw [(Nat.mod_two_eq_zero_or_one a0).resolve_left h2] at e;revert e;generalize a0 / 2=q;intro e;exact w36 h1 e
theorem yv64 {a0:Nat}:(((2*a0)+1) / 2)=a0:=Nat.mul_add_div (by decide) a0 1
end Mine.Internal
end
section
set_option backward.eqns.nonrecursive false
namespace Mine.Internal
open PySem
inductive Key where
 | int (i:Int)
 | tup (l:List Int)
 deriving DecidableEq
inductive PV where
 | none
 | bool (b:Bool)
 | int (i:Int)
 | tuple (l:List PV)
 | list (l:List PV)
 | dict (l:List (Key×PV))
inductive Res (α:Type) where
 | ok (a:α)
 | stuck
noncomputable def Res.bind {α β:Type}:Res α->(α->Res β)->Res β
 | .ok a,f=>f a
 | .stuck,_=>.stuck
noncomputable def lim:Nat:=16777216
inductive BOp where | add | sub | mul | fdiv | mod
inductive COp where | eq | ne | lt | gt | isIn | notIn | no
inductive ItK where | range1 | range2 | enum | seq
inductive Ty where | int | bool | tuple
set_option genCtorIdx false
set_option genInjectivity false
inductive Prim where
 | len | abs | listOf | listRange | tupleOf | intOf | all | max2 | lenSet | sum | sorted
 | isi (t:Ty)
inductive Tgt where
 | one (i:Nat)
 | many (is:List Nat)
inductive PE where
 | var (i:Nat)
 | const (d:PV)
 | tup (l:List PE)
 | lst (l:List PE)
 | dct0
 | bin (o:BOp) (a b:PE)
 | neg (a:PE)
 | not (a:PE)
 | cmp (o:COp) (a b:PE)
 | and (l:List PE)
 | or (l:List PE)
 | ite (c a b:PE)
 | idx (a i:PE)
 | slL (a lo:PE)
 | slH (a hi:PE)
 | call (f:Nat) (clean:Bool) (l:List PE)
 | prim (p:Prim) (l:List PE)
 | index (a b:PE)
 | comp (elt:PE) (t:Tgt) (k:ItK) (src:List PE) (conds:List PE)
 | get (a k:PE) (c:Int)
 | dct1 (k v:PE)
inductive PS where
 | assign (i:Nat) (e:PE)
 | move (i j:Nat)
 | unpack (is:List Nat) (e:PE)
 | setItem (i:Nat) (k v:PE)
 | append (i:Nat) (e:PE)
 | update (i:Nat) (e:PE)
 | ite (c:PE) (a b:List PS)
 | for_ (t:Tgt) (k:ItK) (src:List PE) (body:List PS)
 | while_ (c:PE) (body:List PS)
 | ret (e:PE)
 | expr (e:PE)
 | halt
 | tryR (f:Nat) (l:List PE)
set_option genCtorIdx true
set_option genInjectivity true
mutual
noncomputable def PV.imm:PV->Bool
 | .none | .bool _ | .int _=>true
 | .tuple l=>PV.imms l
 | .list _ | .dict _=>false
noncomputable def PV.imms:List PV->Bool
 | []=>true
 | x::xs=>PV.imm x&&PV.imms xs
end
noncomputable def PV.clean:PV->Bool
 | .list l=>PV.imms l
 | .dict l=>PV.imms (l.map (·.2))
 | d=>d.imm
mutual
noncomputable def PV.eq:PV->PV->Bool
 | .int i,.int j=>i==j
 | .tuple xs,.tuple ys=>PV.eqs xs ys
 | _,_=>false
noncomputable def PV.eqs:List PV->List PV->Bool
 | [],[]=>true
 | x::xs,y::ys=>PV.eq x y&&PV.eqs xs ys
 | _,_=>false
end
mutual
noncomputable def PV.flat:PV->Bool
 | .int _=>true
 | .tuple l=>PV.flats l
 | _=>false
noncomputable def PV.flats:List PV->Bool
 | []=>true
 | x::xs=>PV.flat x&&PV.flats xs
end
mutual
noncomputable def PV.depth:PV->Nat
 | .tuple l=>PV.depths l+1
 | _=>0
noncomputable def PV.depths:List PV->Nat
 | []=>0
 | x::xs=>max (PV.depth x) (PV.depths xs)
end
noncomputable def PV.ints?:List PV->Option (List Int)
 | []=>some []
 | .int i::r=>(PV.ints? r).map (i::·)
 | _::_=>Option.none
noncomputable def PV.key?:PV->Option Key
 | .int i=>some (.int i)
 | .tuple l=>(PV.ints? l).map .tup
 | _=>Option.none
noncomputable def Key.pv:Key->PV
 | .int i=>.int i
 | .tup l=>.tuple (l.map .int)
noncomputable def Key.same:Key->Key->Bool
 | .int _,.int _=>true
 | .tup _,.tup _=>true
 | _,_=>false
noncomputable def dget (l:List (Key×PV)) (k:Key):Option PV:=(l.find? fun p=>p.1=k).map (·.2)
noncomputable def dhas (l:List (Key×PV)) (k:Key):Bool:=l.any fun p=>p.1=k
noncomputable def dput (l:List (Key×PV)) (k:Key) (v:PV):List (Key×PV):=
 if dhas l k then l.map fun p=>if p.1=k then (p.1,v) else p else l++[(k,v)]
noncomputable def dfits (l:List (Key×PV)) (k:Key):Bool:=l.all fun p=>p.1.same k
noncomputable def dupd (l m:List (Key×PV)):List (Key×PV):=m.foldl (fun l p=>dput l p.1 p.2) l
noncomputable def thash (l:List Int):Int:=reduceHash (Builtin.Tuple.tupleHashOf (l.map hashInt))
noncomputable def khash:Key->Int
 | .int i=>hashInt i
 | .tup l=>thash l
noncomputable def mkL (l:List PV):Res PV:=if l.length<=lim then .ok (.list l) else .stuck
noncomputable def mkT (l:List PV):Res PV:=if l.length<=lim then .ok (.tuple l) else .stuck
noncomputable def big (i:Int):Bool:=decide (4611686018427387904<=i.natAbs)
noncomputable def int2 {α:Type} (f:Int->Int->Res α):PV->PV->Res α
 | .int a,.int b=>f a b
 | _,_=>.stuck
noncomputable def addV:PV->PV->Res PV
 | .int a,.int b=>.ok (.int (a+b))
 | .list a,.list b=>mkL (a++b)
 | _,_=>.stuck
noncomputable def mulV:PV->PV->Res PV
 | .int a,.int b=>if big a||big b then .stuck else .ok (.int (a*b))
 | .tuple l,.int n=>if decide (2<=n)&&decide (n<=1000)&&decide (0 < l.length)&&decide (l.length<=1000) then .ok (.tuple (List.replicate n.toNat l).flatten) else .stuck
 | _,_=>.stuck
noncomputable def binop (o:BOp) (x y:PV):Res PV:=match o with
 | .add=>addV x y
 | .sub=>int2 (fun a b=>.ok (.int (a-b))) x y
 | .mul=>mulV x y
 | .fdiv=>int2 (fun a b=>if b=0||decide (1073741824<=b.natAbs) then .stuck else .ok (.int (Int.fdiv a b))) x y
 | .mod=>int2 (fun a b=>if b=0 then .stuck else .ok (.int (Int.fmod a b))) x y
noncomputable def isin (x:PV):PV->Res Bool
 | .list l=>if PV.flats l&&x.flat&&decide (x.depth<=60) then .ok (l.any fun y=>PV.eq y x) else .stuck
 | .dict l=>match x.key? with
  | some k=>if dfits l k then .ok (dhas l k) else .stuck
  | Option.none=>.stuck
 | _=>.stuck
noncomputable def cmpop (o:COp) (x y:PV):Res Bool:=match o with
 | .eq=>if x.flat&&y.flat&&decide (x.depth<=60) then .ok (PV.eq x y) else .stuck
 | .ne=>if x.flat&&y.flat&&decide (x.depth<=60) then .ok (!PV.eq x y) else .stuck
 | .lt=>int2 (fun a b=>.ok (decide (a < b))) x y
 | .gt=>int2 (fun a b=>.ok (decide (a > b))) x y
 | .isIn=>isin x y
 | .notIn=>(isin x y).bind fun r=>.ok (!r)
 | .no=>.stuck
noncomputable def getIdx:PV->PV->Res PV
 | .list l,.int i=>if 0<=i then (match l[i.toNat]? with | some d=>.ok d | Option.none=>.stuck) else .stuck
 | .tuple l,.int i=>if 0<=i then (match l[i.toNat]? with | some d=>.ok d | Option.none=>.stuck) else .stuck
 | .dict l,k=>(match k.key? with
  | some k=>if dfits l k then (match dget l k with | some d=>.ok d | Option.none=>.stuck) else .stuck
  | Option.none=>.stuck)
 | _,_=>.stuck
noncomputable def clip (n:Nat) (i:Int):Nat:=if i < 0 then (i+n).toNat else min i.toNat n
noncomputable def cut (l:List PV) (lo hi:Nat):List PV:=(l.take hi).drop lo
noncomputable def slice (lo hi:Option PV):PV->Res PV
 | .list l=>(match lo,hi with
  | some (.int a),Option.none=>.ok (.list (cut l (clip l.length a) l.length))
  | Option.none,some (.int b)=>.ok (.list (cut l 0 (clip l.length b)))
  | _,_=>.stuck)
 | _=>.stuck
noncomputable def upto (lo hi:Int):List PV:=(List.range (hi-lo).toNat).map fun (k:Nat)=>.int (lo+k)
noncomputable def l1 (f:PV->Res (List PV)):List PV->Res (List PV)
 | [x]=>f x
 | _=>.stuck
noncomputable def rangeI:PV->Res (List PV)
 | .int n=>if decide (0<=n)&&decide (n<=lim) then .ok (upto 0 n) else .stuck
 | _=>.stuck
noncomputable def rangeI2:List PV->Res (List PV)
 | [.int a,.int b]=>if decide (0<=a)&&decide (a<=b)&&decide (b<=lim) then .ok (upto a b) else .stuck
 | _=>.stuck
noncomputable def seqI:PV->Res (List PV)
 | .list l=>.ok l
 | .tuple l=>.ok l
 | .dict l=>if dfits l (.int 0)||dfits l (.tup []) then .ok (l.map fun p=>p.1.pv) else .stuck
 | _=>.stuck
noncomputable def enumI:PV->Res (List PV)
 | .tuple l=>.ok (l.zipIdx.map fun p=>.tuple [.int p.2,p.1])
 | _=>.stuck
noncomputable def items (k:ItK) (l:List PV):Res (List PV):=match k with
 | .range1=>l1 rangeI l
 | .range2=>rangeI2 l
 | .seq=>l1 seqI l
 | .enum=>l1 enumI l
noncomputable def hasTy:Ty->PV->Bool
 | .int,.int _ | .tuple,.tuple _=>true
 | _,_=>false
noncomputable def isi1 (t:Ty):PV->Res PV
 | .int i=>.ok (.bool (hasTy t (.int i)))
 | .tuple l=>.ok (.bool (hasTy t (.tuple l)))
 | _=>.stuck
noncomputable def bools?:List PV->Option (List Bool)
 | []=>some []
 | .bool i::r=>(bools? r).map (i::·)
 | _::_=>Option.none
noncomputable def indexIn (l:List PV) (x:PV):Res PV:=
 match PV.ints? l,x with
 | some l,.int i=>(match l.idxOf? i with | some k=>.ok (.int k) | Option.none=>.stuck)
 | _,_=>.stuck
noncomputable def index1:PV->PV->Res PV
 | .list l,x=>indexIn l x
 | .tuple l,x=>indexIn l x
 | _,_=>.stuck
noncomputable def getd (c:Int):PV->PV->Res PV
 | .dict l,x=>match x.key? with
  | some k=>if dfits l k then .ok ((dget l k).getD (.int c)) else .stuck
  | Option.none=>.stuck
 | _,_=>.stuck
noncomputable def dct1:PV->PV->Res PV
 | .int i,.int j=>.ok (.dict [(.int i,.int j)])
 | _,_=>.stuck
noncomputable def p1 (f:PV->Res PV):List PV->Res PV
 | [x]=>f x
 | _=>.stuck
noncomputable def p2 (f:PV->PV->Res PV):List PV->Res PV
 | [x,y]=>f x y
 | _=>.stuck
noncomputable def len1:PV->Res PV
 | .list l=>.ok (.int l.length)
 | .tuple l=>.ok (.int l.length)
 | _=>.stuck
noncomputable def abs1:PV->Res PV
 | .int i=>.ok (.int (if i < 0 then -i else i))
 | _=>.stuck
noncomputable def list1:PV->Res PV
 | .tuple l=>.ok (.list l)
 | _=>.stuck
noncomputable def tuple1:PV->Res PV
 | .list l=>.ok (.tuple l)
 | _=>.stuck
noncomputable def int1:PV->Res PV
 | .bool b=>.ok (.int (if b then 1 else 0))
 | _=>.stuck
noncomputable def allB (l:List PV):Res PV:=match bools? l with | some l=>.ok (.bool (l.all id)) | Option.none=>.stuck
noncomputable def all1:PV->Res PV
 | .list l=>allB l
 | _=>.stuck
noncomputable def dcnt (l:List Int):Nat:=(PyProof.Rows.firstMet (fun i=>l.getD i 0) l.length).length
noncomputable def sumI (l:List Int):Int:=PySem.preSum (fun i=>l.getD i 0) l.length
noncomputable def srt (l:List Int):List Int:=l.mergeSort fun a b=>decide (a<=b)
noncomputable def Key.i:Key->Int
 | .int i=>i
 | .tup _=>0
noncomputable def set1:PV->Res PV
 | .list l=>match PV.ints? l with | some is=>if decide (is.length < 1000) then .ok (.int (dcnt is)) else .stuck | Option.none=>.stuck
 | _=>.stuck
noncomputable def sum1:PV->Res PV
 | .tuple l=>match PV.ints? l with | some is=>.ok (.int (sumI is)) | Option.none=>.stuck
 | _=>.stuck
noncomputable def sort1:PV->Res PV
 | .dict l=>if dfits l (.int 0)&&decide (l.length < 64) then .ok (.list ((srt (l.map fun p=>p.1.i)).map PV.int)) else .stuck
 | _=>.stuck
noncomputable def prim (p:Prim) (l:List PV):Res PV:=match p with
 | .len=>p1 len1 l
 | .abs=>p1 abs1 l
 | .listOf=>p1 list1 l
 | .listRange=>(items .range1 l).bind mkL
 | .tupleOf=>p1 tuple1 l
 | .intOf=>p1 int1 l
 | .all=>p1 all1 l
 | .max2=>p2 (int2 fun a b=>.ok (.int (if a < b then b else a))) l
 | .isi t=>p1 (isi1 t) l
 | .lenSet=>p1 set1 l
 | .sum=>p1 sum1 l
 | .sorted=>p1 sort1 l
theorem p1_ok {f:PV->Res PV} {l:List PV} {d:PV} (h:p1 f l=.ok d):∃ x,l=[x]/\f x=.ok d:=by
 cases l with
 | nil=>cases h
 | cons x l=>
  cases l with
  | nil=>exact ⟨x,rfl,h⟩
  | cons _ _=>cases h
theorem p2_ok {f:PV->PV->Res PV} {l:List PV} {d:PV} (h:p2 f l=.ok d):∃ x y,l=[x,y]/\f x y=.ok d:=by
 cases l with
 | nil=>cases h
 | cons x l=>
  cases l with
  | nil=>cases h
  | cons y l=>
   cases l with
   | nil=>exact ⟨x,y,rfl,h⟩
   | cons _ _=>cases h
theorem int2_ok {α:Type} {f:Int->Int->Res α} {x y:PV} {d:α} (h:int2 f x y=.ok d):∃ a b,x=.int a/\y=.int b/\f a b=.ok d:=by
 cases x with
 | int a=>
  cases y with
  | int b=>exact ⟨a,b,rfl,rfl,h⟩
  | _=>cases h
 | _=>cases h
theorem if_ok {α:Type} {c:Prop} [Decidable c] {r:Res α} {d:α} (h:(if c then r else .stuck)=.ok d):c/\r=.ok d:=by
 by_cases q:c
 ·exact ⟨q,by rwa [if_pos q] at h⟩
 ·rw [if_neg q] at h;cases h
theorem if_ok' {α:Type} {c:Prop} [Decidable c] {r:Res α} {d:α} (h:(if c then .stuck else r)=.ok d):¬ c/\r=.ok d:=by
 by_cases q:c
 ·rw [if_pos q] at h;cases h
 ·exact ⟨q,by rwa [if_neg q] at h⟩
abbrev Slots:=List (Option PV)
noncomputable def setTgt:Tgt->PV->Slots->Res Slots
 | .one i,d,ρ=>.ok (ρ.set i (some d))
 | .many is,.tuple l,ρ=>if is.length=l.length then .ok ((is.zip l).foldl (fun ρ p=>ρ.set p.1 (some p.2)) ρ) else .stuck
 | _,_,_=>.stuck
noncomputable def clr:Tgt->Slots->Slots
 | .one i,ρ=>ρ.set i Option.none
 | .many is,ρ=>is.foldl (fun ρ i=>ρ.set i Option.none) ρ
noncomputable def slot (ρ:Slots) (i:Nat):Res PV:=match ρ[i]? with
 | some (some d)=>.ok d
 | _=>.stuck
section
variable (cf:Nat->List PV->Res PV)
noncomputable def noExc {α:Type} (r:Res α):Res α:=r
noncomputable def compGo (elt:Slots->Res PV) (cond:Slots->Res Bool) (t:Tgt):List PV->Slots->Res (List PV)
 | [],_=>.ok []
 | d::ds,ρ=>(setTgt t d ρ).bind fun ρ'=>(cond ρ').bind fun b=>
   if b then (elt ρ').bind fun x=>(compGo elt cond t ds ρ').bind fun xs=>.ok (x::xs) else compGo elt cond t ds ρ'
mutual
noncomputable def ev (ρ:Slots):PE->Res PV
 | .var i=>slot ρ i
 | .const d=>.ok d
 | .tup l=>(evs ρ l).bind mkT
 | .lst l=>(evs ρ l).bind mkL
 | .dct0=>.ok (.dict [])
 | .bin o a b=>(ev ρ a).bind fun x=>(ev ρ b).bind fun y=>binop o x y
 | .neg a=>(ev ρ a).bind fun x=>match x with | .int i=>.ok (.int (-i)) | _=>.stuck
 | .not a=>(ev ρ a).bind fun x=>match x with | .bool b=>.ok (.bool (!b)) | _=>.stuck
 | .cmp o a b=>(ev ρ a).bind fun x=>(ev ρ b).bind fun y=>(cmpop o x y).bind fun r=>.ok (.bool r)
 | .and l=>(evAnd ρ l).bind fun r=>.ok (.bool r)
 | .or l=>(evOr ρ l).bind fun r=>.ok (.bool r)
 | .ite c a b=>(ev ρ c).bind fun x=>match x with | .bool t=>if t then ev ρ a else ev ρ b | _=>.stuck
 | .idx a i=>(ev ρ a).bind fun x=>(ev ρ i).bind fun y=>getIdx x y
 | .slL a lo=>(ev ρ a).bind fun x=>(ev ρ lo).bind fun y=>slice (some y) Option.none x
 | .slH a hi=>(ev ρ a).bind fun x=>(ev ρ hi).bind fun y=>slice Option.none (some y) x
 | .call f c l=>(evs ρ l).bind fun xs=>(cf f xs).bind fun d=>if !c||d.clean then .ok d else .stuck
 | .prim p l=>(evs ρ l).bind fun xs=>prim p xs
 | .index a b=>(ev ρ a).bind fun x=>(ev ρ b).bind fun y=>index1 x y
 | .comp elt t k src conds=>(evs ρ src).bind fun xs=>(items k xs).bind fun ds=>
   (noExc (compGo (fun ρ'=>ev ρ' elt) (fun ρ'=>evAnd ρ' conds) t ds (clr t ρ))).bind mkL
 | .get a k c=>(ev ρ a).bind fun x=>(ev ρ k).bind fun y=>getd c x y
 | .dct1 k v=>(ev ρ k).bind fun x=>(ev ρ v).bind fun y=>dct1 x y
noncomputable def evs (ρ:Slots):List PE->Res (List PV)
 | []=>.ok []
 | e::r=>(ev ρ e).bind fun x=>(evs ρ r).bind fun xs=>.ok (x::xs)
noncomputable def evAnd (ρ:Slots):List PE->Res Bool
 | []=>.ok true
 | e::r=>(ev ρ e).bind fun x=>match x with | .bool b=>if b then evAnd ρ r else .ok false | _=>.stuck
noncomputable def evOr (ρ:Slots):List PE->Res Bool
 | []=>.ok false
 | e::r=>(ev ρ e).bind fun x=>match x with | .bool b=>if b then .ok true else evOr ρ r | _=>.stuck
end
noncomputable def nil1 {α:Type} (r:Res α):PV->Res α
 | .none=>r
 | _=>.stuck
theorem nil1K {α:Type} {r:Res α}:nil1 r .none=r:=rfl
inductive Out where
 | next (ρ:Slots)
 | ret (d:PV)
noncomputable def forGo (body:Slots->Res Out) (t:Tgt):List PV->Slots->Res Out
 | [],ρ=>.ok (.next ρ)
 | d::ds,ρ=>(setTgt t d ρ).bind fun ρ'=>(body ρ').bind fun o=>match o with
   | .next ρ''=>forGo body t ds ρ''
   | .ret d=>.ok (.ret d)
noncomputable def whileGo (test:Slots->Res PV) (body:Slots->Res Out):Nat->Slots->Res Out
 | 0,_=>.stuck
 | n+1,ρ=>(test ρ).bind fun x=>match x with
   | .bool true=>(body ρ).bind fun o=>(match o with
    | .next ρ'=>whileGo test body n ρ'
    | .ret d=>.ok (.ret d))
   | .bool false=>.ok (.next ρ)
   | _=>.stuck
noncomputable def fuel:Nat:=1000000
mutual
noncomputable def ex (ρ:Slots):PS->Res Out
 | .assign i e=>(ev cf ρ e).bind fun d=>.ok (.next (ρ.set i (some d)))
 | .move i j=>(slot ρ j).bind fun d=>.ok (.next ((ρ.set j Option.none).set i (some d)))
 | .unpack is e=>(ev cf ρ e).bind fun d=>(setTgt (.many is) d ρ).bind fun ρ'=>.ok (.next ρ')
 | .setItem i k v=>(ev cf ρ v).bind fun d=>(slot ρ i).bind fun c=>match c with
   | .dict l=>(ev cf ρ k).bind fun kk=>(match kk.key? with
    | some k=>if dfits l k&&decide (l.length < lim) then .ok (.next (ρ.set i (some (.dict (dput l k d))))) else .stuck
    | Option.none=>.stuck)
   | _=>.stuck
 | .append i e=>(slot ρ i).bind fun c=>match c with
   | .list l=>(ev cf ρ e).bind fun d=>if decide (l.length < lim) then .ok (.next (ρ.set i (some (.list (l++[d]))))) else .stuck
   | _=>.stuck
 | .update i e=>(slot ρ i).bind fun c=>match c with
   | .dict l=>(ev cf ρ e).bind fun d=>(match d with
    | .dict m=>if dfits l (.tup [])&&dfits m (.tup [])&&decide (l.length+m.length < lim)&&(!l.isEmpty||decide ((m.map fun p=>khash p.1).Nodup)) then .ok (.next (ρ.set i (some (.dict (dupd l m))))) else .stuck
    | _=>.stuck)
   | _=>.stuck
 | .ite c a b=>(ev cf ρ c).bind fun x=>match x with | .bool t=>if t then exs ρ a else exs ρ b | _=>.stuck
 | .for_ t k src body=>(evs cf ρ src).bind fun xs=>(items k xs).bind fun ds=>noExc (forGo (fun ρ'=>exs ρ' body) t ds ρ)
 | .while_ c body=>noExc (whileGo (fun ρ'=>ev cf ρ' c) (fun ρ'=>exs ρ' body) fuel ρ)
 | .ret e=>(ev cf ρ e).bind fun d=>.ok (.ret d)
 | .expr e=>(ev cf ρ e).bind (nil1 (.ok (.next ρ)))
 | .halt=>.stuck
 | .tryR f l=>(evs cf ρ l).bind fun xs=>(cf (f+1000) xs).bind fun _=>.ok (.ret (.bool true))
noncomputable def exs (ρ:Slots):List PS->Res Out
 | []=>.ok (.next ρ)
 | p::r=>(ex ρ p).bind fun o=>match o with
   | .next ρ'=>exs ρ' r
   | .ret d=>.ok (.ret d)
end
end
section
variable {cf:Nat->List PV->Res PV} {ρ:Slots}
theorem vE1 {i:Nat}:ev cf ρ (.var i)=(slot ρ i):=rfl
theorem vE2 {d:PV}:ev cf ρ (.const d)=(.ok d):=rfl
theorem vE3 {l:List PE}:ev cf ρ (.tup l)=((evs cf ρ l).bind mkT):=rfl
theorem vE4 {l:List PE}:ev cf ρ (.lst l)=((evs cf ρ l).bind mkL):=rfl
theorem vE6 {o:BOp} {a:PE} {b:PE}:ev cf ρ (.bin o a b)=((ev cf ρ a).bind fun x=>(ev cf ρ b).bind fun y=>binop o x y):=rfl
theorem vE7 {a:PE}:ev cf ρ (.neg a)=((ev cf ρ a).bind fun x=>match x with | .int i=>.ok (.int (-i)) | _=>.stuck):=rfl
theorem vE8 {a:PE}:ev cf ρ (.not a)=((ev cf ρ a).bind fun x=>match x with | .bool b=>.ok (.bool (!b)) | _=>.stuck):=rfl
theorem vE9 {o:COp} {a:PE} {b:PE}:ev cf ρ (.cmp o a b)=((ev cf ρ a).bind fun x=>(ev cf ρ b).bind fun y=>(cmpop o x y).bind fun r=>.ok (.bool r)):=rfl
theorem vE11 {l:List PE}:ev cf ρ (.and l)=((evAnd cf ρ l).bind fun r=>.ok (.bool r)):=rfl
theorem vE12 {l:List PE}:ev cf ρ (.or l)=((evOr cf ρ l).bind fun r=>.ok (.bool r)):=rfl
theorem vE13 {c:PE} {a:PE} {b:PE}:ev cf ρ (.ite c a b)=((ev cf ρ c).bind fun x=>match x with | .bool t=>if t then ev cf ρ a else ev cf ρ b | _=>.stuck):=rfl
theorem vE14 {a:PE} {i:PE}:ev cf ρ (.idx a i)=((ev cf ρ a).bind fun x=>(ev cf ρ i).bind fun y=>getIdx x y):=rfl
theorem vE16 {a:PE} {lo:PE}:ev cf ρ (.slL a lo)=((ev cf ρ a).bind fun x=>(ev cf ρ lo).bind fun y=>slice (some y) Option.none x):=rfl
theorem vE17 {a:PE} {hi:PE}:ev cf ρ (.slH a hi)=((ev cf ρ a).bind fun x=>(ev cf ρ hi).bind fun y=>slice Option.none (some y) x):=rfl
theorem vE19 {f:Nat} {c:Bool} {l:List PE}:ev cf ρ (.call f c l)=((evs cf ρ l).bind fun xs=>(cf f xs).bind fun d=>if !c||d.clean then .ok d else .stuck):=rfl
theorem vE20 {p:Prim} {l:List PE}:ev cf ρ (.prim p l)=((evs cf ρ l).bind fun xs=>prim p xs):=rfl
theorem vE21 {a:PE} {b:PE}:ev cf ρ (.index a b)=((ev cf ρ a).bind fun x=>(ev cf ρ b).bind fun y=>index1 x y):=rfl
theorem vE25 {a k:PE} {c:Int}:ev cf ρ (.get a k c)=((ev cf ρ a).bind fun x=>(ev cf ρ k).bind fun y=>getd c x y):=rfl
theorem vE26 {k v:PE}:ev cf ρ (.dct1 k v)=((ev cf ρ k).bind fun x=>(ev cf ρ v).bind fun y=>dct1 x y):=rfl
theorem vE22 {elt:PE} {t:Tgt} {k:ItK} {src:List PE} {conds:List PE}:ev cf ρ (.comp elt t k src conds)=((evs cf ρ src).bind fun xs=>(items k xs).bind fun ds=>
   (noExc (compGo (fun ρ'=>ev cf ρ' elt) (fun ρ'=>evAnd cf ρ' conds) t ds (clr t ρ))).bind mkL):=rfl
theorem evsN:evs cf ρ []=(.ok []):=rfl
theorem evsC {e:PE} {r:List PE}:evs cf ρ (e::r)=((ev cf ρ e).bind fun x=>(evs cf ρ r).bind fun xs=>.ok (x::xs)):=rfl
theorem evAndN:evAnd cf ρ []=(.ok true):=rfl
theorem evAndC {e:PE} {r:List PE}:evAnd cf ρ (e::r)=((ev cf ρ e).bind fun x=>match x with | .bool b=>if b then evAnd cf ρ r else .ok false | _=>.stuck):=rfl
theorem evOrN:evOr cf ρ []=(.ok false):=rfl
theorem evOrC {e:PE} {r:List PE}:evOr cf ρ (e::r)=((ev cf ρ e).bind fun x=>match x with | .bool b=>if b then .ok true else evOr cf ρ r | _=>.stuck):=rfl
theorem xE1 {i:Nat} {e:PE}:ex cf ρ (.assign i e)=((ev cf ρ e).bind fun d=>.ok (.next (ρ.set i (some d)))):=rfl
theorem xE2 {i:Nat} {j:Nat}:ex cf ρ (.move i j)=((slot ρ j).bind fun d=>.ok (.next ((ρ.set j Option.none).set i (some d)))):=rfl
theorem xE3 {is:List Nat} {e:PE}:ex cf ρ (.unpack is e)=((ev cf ρ e).bind fun d=>(setTgt (.many is) d ρ).bind fun ρ'=>.ok (.next ρ')):=rfl
theorem xE4 {i:Nat} {k:PE} {v:PE}:ex cf ρ (.setItem i k v)=((ev cf ρ v).bind fun d=>(slot ρ i).bind fun c=>match c with
   | .dict l=>(ev cf ρ k).bind fun kk=>(match kk.key? with
    | some k=>if dfits l k&&decide (l.length < lim) then .ok (.next (ρ.set i (some (.dict (dput l k d))))) else .stuck
    | Option.none=>.stuck)
   | _=>.stuck):=rfl
theorem xE5 {i:Nat} {e:PE}:ex cf ρ (.append i e)=((slot ρ i).bind fun c=>match c with
   | .list l=>(ev cf ρ e).bind fun d=>if decide (l.length < lim) then .ok (.next (ρ.set i (some (.list (l++[d]))))) else .stuck
   | _=>.stuck):=rfl
theorem xE6 {i:Nat} {e:PE}:ex cf ρ (.update i e)=((slot ρ i).bind fun c=>match c with
   | .dict l=>(ev cf ρ e).bind fun d=>(match d with
    | .dict m=>if dfits l (.tup [])&&dfits m (.tup [])&&decide (l.length+m.length < lim)&&(!l.isEmpty||decide ((m.map fun p=>khash p.1).Nodup)) then .ok (.next (ρ.set i (some (.dict (dupd l m))))) else .stuck
    | _=>.stuck)
   | _=>.stuck):=rfl
theorem xE8 {c:PE} {a:List PS} {b:List PS}:ex cf ρ (.ite c a b)=((ev cf ρ c).bind fun x=>match x with | .bool t=>if t then exs cf ρ a else exs cf ρ b | _=>.stuck):=rfl
theorem xE9 {t:Tgt} {k:ItK} {src:List PE} {body:List PS}:ex cf ρ (.for_ t k src body)=((evs cf ρ src).bind fun xs=>(items k xs).bind fun ds=>noExc (forGo (fun ρ'=>exs cf ρ' body) t ds ρ)):=rfl
theorem xE10 {c:PE} {body:List PS}:ex cf ρ (.while_ c body)=(noExc (whileGo (fun ρ'=>ev cf ρ' c) (fun ρ'=>exs cf ρ' body) fuel ρ)):=rfl
theorem xE11 {e:PE}:ex cf ρ (.ret e)=((ev cf ρ e).bind fun d=>.ok (.ret d)):=rfl
theorem xE12 {e:PE}:ex cf ρ (.expr e)=((ev cf ρ e).bind (nil1 (.ok (.next ρ)))):=rfl
theorem xE13 {f:Nat} {l:List PE}:ex cf ρ (.tryR f l)=((evs cf ρ l).bind fun xs=>(cf (f+1000) xs).bind fun _=>.ok (.ret (.bool true))):=rfl
theorem exsN:exs cf ρ []=(.ok (.next ρ)):=rfl
theorem exsC {p:PS} {r:List PS}:exs cf ρ (p::r)=((ex cf ρ p).bind fun o=>match o with
   | .next ρ'=>exs cf ρ' r
   | .ret d=>.ok (.ret d)):=rfl
end
structure Fn where
 slots:Nat
 arity:Nat
 body:List PS
noncomputable def outVal:Out->PV
 | .ret d=>d
 | .next _=>.none
noncomputable def runFn (f:Fn) (cf:Nat->List PV->Res PV) (args:List PV):Res PV:=
 if args.length=f.arity then (exs cf (args.map some++List.replicate (f.slots-f.arity) Option.none) f.body).bind fun o=>.ok (outVal o) else .stuck
noncomputable def exr (cf:Nat->List PV->Res PV) (ρ:Slots):List PS->Res PV
 | .expr e::r=>(ev cf ρ e).bind (nil1 (exr cf ρ r))
 | .ite c [.halt] []::r=>(ev cf ρ c).bind fun x=>match x with | .bool b=>if b then .ok .none else exr cf ρ r | _=>.stuck
 | _=>.stuck
noncomputable def runR (f:Fn) (cf:Nat->List PV->Res PV) (args:List PV):Res PV:=
 if args.length=f.arity then exr cf (args.map some++List.replicate (f.slots-f.arity) Option.none) f.body else .stuck
noncomputable def callN (P:List Fn):Nat->Nat->List PV->Res PV
 | 0,_,_=>.stuck
 | n+1,f,args=>match P[f]? with
  | some fn=>runFn fn (callN P n) args
  | Option.none=>if 1000<=f then (match P[f-1000]? with
   | some fn=>runR fn (callN P n) args
   | Option.none=>.stuck) else .stuck
theorem callS {P:List Fn} {n f:Nat} {args:List PV} {fn:Fn} (h:P[f]?=some fn):callN P (n+1) f args=runFn fn (callN P n) args:=by
 show (match P[f]? with | some fn=>runFn fn (callN P n) args | Option.none=>_)=_
 rw [h]
section
variable {α β:Type} {cf:Nat->List PV->Res PV} {ρ:Slots} {a b:Int} {l m:List PV} {k:List (Key×PV)} {x y z:PV}
theorem bindK {a:α} {f:α->Res β}:(Res.ok a).bind f=f a:=rfl
theorem int2K {f:Int->Int->Res α}:int2 f (.int a) (.int b)=f a b:=rfl
theorem p1K {f:PV->Res PV}:p1 f [x]=f x:=rfl
theorem p2K {f:PV->PV->Res PV}:p2 f [x,y]=f x y:=rfl
theorem addVI:addV (.int a) (.int b)=.ok (.int (a+b)):=rfl
theorem addVL:addV (.list l) (.list m)=mkL (l++m):=rfl
theorem bopA:binop .add x y=addV x y:=rfl
theorem bopS:binop .sub x y=int2 (fun a b=>.ok (.int (a-b))) x y:=rfl
theorem bopM:binop .mul x y=mulV x y:=rfl
theorem mulVI:mulV (.int a) (.int b)=if big a||big b then .stuck else .ok (.int (a*b)):=rfl
theorem mulVT:mulV (.tuple l) (.int a)=if decide (2<=a)&&decide (a<=1000)&&decide (0 < l.length)&&decide (l.length<=1000) then .ok (.tuple (List.replicate a.toNat l).flatten) else .stuck:=rfl
theorem bopF:binop .fdiv x y=int2 (fun a b=>if b=0||decide (1073741824<=b.natAbs) then .stuck else .ok (.int (Int.fdiv a b))) x y:=rfl
theorem bopR:binop .mod x y=int2 (fun a b=>if b=0 then .stuck else .ok (.int (Int.fmod a b))) x y:=rfl
theorem copE:cmpop .eq x y=if x.flat&&y.flat&&decide (x.depth<=60) then .ok (PV.eq x y) else .stuck:=rfl
theorem copN:cmpop .ne x y=if x.flat&&y.flat&&decide (x.depth<=60) then .ok (!PV.eq x y) else .stuck:=rfl
theorem copLt:cmpop .lt x y=int2 (fun a b=>.ok (decide (a < b))) x y:=rfl
theorem copGt:cmpop .gt x y=int2 (fun a b=>.ok (decide (a > b))) x y:=rfl
theorem copNi:cmpop .notIn x y=(isin x y).bind fun r=>.ok (!r):=rfl
theorem ixL:index1 (.list l) x=indexIn l x:=rfl
theorem getIdxL:getIdx (.list l) (.int a)=if 0<=a then (match l[a.toNat]? with | some d=>.ok d | Option.none=>.stuck) else .stuck:=rfl
theorem getIdxT:getIdx (.tuple l) (.int a)=if 0<=a then (match l[a.toNat]? with | some d=>.ok d | Option.none=>.stuck) else .stuck:=rfl
theorem sliceLL:slice (some (.int a)) Option.none (.list l)=.ok (.list (cut l (clip l.length a) l.length)):=rfl
theorem sliceHL:slice Option.none (some (.int b)) (.list l)=.ok (.list (cut l 0 (clip l.length b))):=rfl
theorem itR2:items .range2 [.int a,.int b]=if decide (0<=a)&&decide (a<=b)&&decide (b<=lim) then .ok (upto a b) else .stuck:=rfl
theorem lenL:len1 (.list l)=.ok (.int l.length):=rfl
theorem absK:abs1 (.int a)=.ok (.int (if a < 0 then -a else a)):=rfl
theorem tupL:tuple1 (.list l)=.ok (.tuple l):=rfl
theorem intB {b:Bool}:int1 (.bool b)=.ok (.int (if b then 1 else 0)):=rfl
theorem prLen:prim .len l=p1 len1 l:=rfl
theorem prAbs:prim .abs l=p1 abs1 l:=rfl
theorem prRng:prim .listRange l=(items .range1 l).bind mkL:=rfl
theorem prTup:prim .tupleOf l=p1 tuple1 l:=rfl
theorem prInt:prim .intOf l=p1 int1 l:=rfl
theorem prMax:prim .max2 l=p2 (int2 fun a b=>.ok (.int (if a < b then b else a))) l:=rfl
theorem eqII:PV.eq (.int a) (.int b)=(a==b):=rfl
theorem eqsC:PV.eqs (x::l) (y::m)=(PV.eq x y&&PV.eqs l m):=rfl
theorem flatI:PV.flat (.int a)=true:=rfl
theorem flatT:PV.flat (.tuple l)=PV.flats l:=rfl
theorem flatsN:PV.flats []=true:=rfl
theorem flatsC:PV.flats (x::l)=(PV.flat x&&PV.flats l):=rfl
theorem depI:PV.depth (.int a)=0:=rfl
theorem depsC:PV.depths (x::l)=max (PV.depth x) (PV.depths l):=rfl
theorem immI:PV.imm (.int a)=true:=rfl
theorem immT:PV.imm (.tuple l)=PV.imms l:=rfl
theorem immsN:PV.imms []=true:=rfl
theorem immsC:PV.imms (x::l)=(PV.imm x&&PV.imms l):=rfl
theorem sameII {i j:Int}:Key.same (.int i) (.int j)=true:=rfl
theorem sameTT {i j:List Int}:Key.same (.tup i) (.tup j)=true:=rfl
theorem keyI:PV.key? (.int a)=some (.int a):=rfl
theorem keyT:PV.key? (.tuple l)=(PV.ints? l).map .tup:=rfl
theorem intsN:PV.ints? []=some []:=rfl
theorem intsC:PV.ints? (.int a::l)=(PV.ints? l).map (a::·):=rfl
theorem tgt1 {i:Nat}:setTgt (.one i) x ρ=.ok (ρ.set i (some x)):=rfl
theorem tgtM {is:List Nat}:setTgt (.many is) (.tuple l) ρ=if is.length=l.length then .ok ((is.zip l).foldl (fun ρ p=>ρ.set p.1 (some p.2)) ρ) else .stuck:=rfl
theorem clr1 {i:Nat}:clr (.one i) ρ=ρ.set i Option.none:=rfl
theorem outR:outVal (.ret x)=x:=rfl
theorem forN {g:Slots->Res Out} {t:Tgt}:forGo g t [] ρ=.ok (.next ρ):=rfl
theorem forC {g:Slots->Res Out} {t:Tgt}:forGo g t (x::l) ρ=(setTgt t x ρ).bind fun ρ'=>(g ρ').bind fun o=>match o with
   | .next ρ''=>forGo g t l ρ''
   | .ret d=>.ok (.ret d):=rfl
theorem compC {g:Slots->Res PV} {h:Slots->Res Bool} {t:Tgt}:compGo g h t (x::l) ρ=(setTgt t x ρ).bind fun ρ'=>(h ρ').bind fun b=>
   if b then (g ρ').bind fun x=>(compGo g h t l ρ').bind fun xs=>.ok (x::xs) else compGo g h t l ρ':=rfl
end
end Mine.Internal
end
section
set_option maxRecDepth 100000
namespace Mine.Internal
open PySem PySem.Spec PySem.W PySem.Calls PyProof.Rows Builtin Builtin.ObjectAttr Builtin.Getset_descriptor
noncomputable def isnOk (K:Frag) (C D:Addr):Bool:=
 decide (C≠D)&&(clsIn K C).isSome&&(clsIn K D).isSome&&typeIn K (.ref D)==some (.type "type")&&mroIn K C (.ref D)==some false&&mroIn K C (.type "object")==some true&&mroIn K C (.type "BaseException")==some true &&
 findIn K (.ref C) "__getattribute__" == some (some (.builtin "BaseException.__getattribute__"))&&findIn K (.ref C) "__getattr__" == some none&&findIn K (.ref C) "__class__" == some (some (.builtin "object.__class__")) &&
 specialIn K (.builtin "object.__class__") "__get__" == some (some (.builtin "getset_descriptor.__get__"))&&takesIn K (.builtin "object.__class__")==some true
section
variable {prog:Program} {w:World} {A:Around} {E:Value->Shared->Prop} {s:Shared} {K:Frag} {x C D:Addr} {ox:Obj}
theorem isType_in {M:Model} {h:Heap} (X:K.In h) (e:(clsIn K C).isSome=true):Looks M h (isType (.ref C)) true:=by
 unfold clsIn at e
 split at e
 ·rename_i c d cd sl ho
  intro A Q E s k q
  unfold isType loadHead
  exact wpAny_bind (wpAny_loadPart (k _ _ (X _ _ ho)) (wpAny_pure q))
 ·cases e
theorem class_got {tp:Value} {R:Result->Shared->Prop} (L0:Looks (model prog w) s.heap (typeOf (.ref x)) (.ref C)) (X:K.In s.heap) (hm:mroIn K C (.type "object")=some true)
  (h:R (.ok (.ret (.ref C))) s):codeAny (model prog w) A (.call (.builtin "getset_descriptor.__get__") ⟨[.builtin "object.__class__",.ref x,tp],[]⟩) R s:=by
 obtain ⟨hh,g,dr,t,os⟩:=s
 have L1:=looks_mroIn (M:=model prog w) X hm
 refine codeAny_call_builtin KF.slot_gs.plain KF.entry_gs (KF.slot_gs.check _ _ _ _ _ _ _ _ KF.type_class (KF.args_gs _ _ _) ?_)
 unfold Builtin.«getset_descriptor.__get__» descrGet
 rw [dga_obj]
 refine wpAny_bind (wpAny_pure ?_)
 unfold descrGetter descrCheckInstance descrNameAndClass isInstance
 simp only [KF.owner_class]
 repeat lk
 refine ⟨Code.quiet_builtin _ (by decide +kernel),codeAny_builtin KF.entry_class ?_⟩
 unfold Builtin.«object.__class__» shownTypeOf
 repeat lk
 exact h
theorem ga_entry {tk:Tok} {Q:Fin->Shared->Prop} (L0:Looks (model prog w) s.heap (typeOf (.ref x)) (.ref C)) (L2:Looks (model prog w) s.heap (find (.ref x) (.ref C) "__class__") (.bind (.builtin "getset_descriptor.__get__") (.builtin "object.__class__")))
  (X:K.In s.heap) (e5:mroIn K C (.type "object")=some true) (h:Q (.done (.ret (.ref C))) s):wpAny (model prog w) A (Builtin.«object.__getattribute__» ⟨[.ref x,.str "__class__" tk],[]⟩) Q E s:=by
 obtain ⟨hh,g,d,t,os⟩:=s
 unfold Builtin.«object.__getattribute__»
 refine wpAny_bind (wpAny_of_eq (a:=(Value.ref x,[Value.str "__class__" tk])) (by rfl) ?_)
 dsimp only
 refine wpAny_bind (wpAny_of_eq (a:=("__class__" : Str)) (by rfl) ?_)
 refine wpAny_bind (L0.at (wpAny_bind (L2.at ?_)))
 show wpAny _ _ (holding [Value.builtin "object.__class__"] (call (.builtin "getset_descriptor.__get__") [.builtin "object.__class__",.ref x,.ref C]) >>= ret) _ _ _
 exact wpAny_bind (wpAny_holding (wpAny_call (class_got (s:=⟨hh,g,d,t,os⟩) L0 X e5 (wpAny_pure h))))
theorem ga_call {tk:Tok} {R:Result->Shared->Prop} (L0:Looks (model prog w) s.heap (typeOf (.ref x)) (.ref C)) (L2:Looks (model prog w) s.heap (find (.ref x) (.ref C) "__class__") (.bind (.builtin "getset_descriptor.__get__") (.builtin "object.__class__")))
  (X:K.In s.heap) (e5:mroIn K C (.type "object")=some true) (e11:mroIn K C (.type "BaseException")=some true) (h:R (.ok (.ret (.ref C))) s):codeAny (model prog w) A (.call (.builtin "BaseException.__getattribute__") ⟨[.ref x,.str "__class__" tk],[]⟩) R s:=by
 have L4:Looks (model prog w) s.heap (isInstance (.ref x) (.type "BaseException")) true:=L0.andThen (looks_mroIn X e11)
 have hk:builtinKind "BaseException.__getattribute__" = some .slot:=by decide +kernel
 have hsp:splitId "BaseException.__getattribute__" = some ("BaseException","__getattribute__"):=by decide +kernel
 have ha:=F.args_bexc_ga (.ref x) (.str "__class__" tk)
 have hck:∀ (A:Around) (Q:Unit->Shared->Prop) (E:Value->Shared->Prop),Q () s->wpAny (model prog w) A (checkBuiltinCall "BaseException.__getattribute__" ⟨[.ref x,.str "__class__" tk],[]⟩) Q E s:=fun A Q E q=>check_slot (i := "BaseException.__getattribute__") (self:=.ref x) (rest:=[.str "__class__" tk]) (kw:=[]) hk hsp L4 ha q
 exact codeAny_call_builtin F.excAttr_ValueError.ga.plain F.entry_bexc_ga (hck _ _ _ (ga_entry L0 L2 X e5 h))
theorem class_of {Q:Option Value->Shared->Prop} (hx:s.heap.get? x=some ox) (hc:ox.cls=.ref C) (X:K.In s.heap) (e:isnOk K C D=true) (h:Q (some (.ref C)) { s with toks:=s.toks+1 }):
  wpAny (model prog w) A (getAttr? (.ref x) "__class__") Q E s:=by
 unfold isnOk at e
 simp only [Bool.and_eq_true,beq_iff_eq] at e
 obtain ⟨⟨⟨⟨⟨⟨⟨⟨⟨⟨⟨e0,e1⟩,e2⟩,e3⟩,e4⟩,e5⟩,e11⟩,e6⟩,e7⟩,e8⟩,e9⟩,e10⟩:=e
 obtain ⟨hh,g,d,t,os⟩:=s
 have L0:Looks (model prog w) hh (typeOf (.ref x)) (.ref C):=hc ▸ (Looks.ld hx).andThen .now
 have L1:=looks_findIn (M:=model prog w) X e6
 have L2:Looks (model prog w) hh (find (.ref x) (.ref C) "__class__") (.bind (.builtin "getset_descriptor.__get__") (.builtin "object.__class__")):=
  (looks_findIn X e8).andThen ((looks_specialIn X e9).andThen ((show Looks (model prog w) hh (dataDescriptor? (some (.builtin "object.__class__")) (some (.builtin "getset_descriptor.__get__"))) (some (.builtin "getset_descriptor.__get__",.builtin "object.__class__")) from (looks_takesIn X e10).andThen .now).andThen (Looks.tag .now)))
 have L3:=looks_findIn (M:=model prog w) X e7
 unfold getAttr? getAttrBy? getAttrBy
 refine wpAny_bind (wpAny_mkText (wpAny_bind (wpAny_attempt (wpAny_holding (wpAny_bind (L0.at (wpAny_bind (L1.at ?_))))))))
 dsimp only
 rw [if_neg (show ¬ ((onTheHeap (Value.ref C)&&Value.builtin "BaseException.__getattribute__" == Value.builtin "object.__getattribute__")=true) from fun q=>absurd (Bool.and_eq_true_iff.mp q).2 (by decide +kernel))]
 unfold getAttrByItsOwn hookBefore
 rw [if_pos (show onTheHeap (Value.ref C)=true from rfl)]
 refine wpAny_bind (L3.at (wpAny_bind (wpAny_attempt (wpAny_holding ?_))))
 unfold callGetattribute
 rw [if_neg (by decide)]
 unfold boundAndCalled
 rw [F.excAttr_ValueError.ga.bind (.ref x)]
 refine wpAny_bind (wpAny_pure (wpAny_call (ga_call (s:=⟨hh,g,d,t+1,os⟩) L0 L2 X e5 e11 ?_)))
 show wpAny _ _ (handedOut (.ref C)) _ _ _
 rw [handedOut_of rfl]
 exact wpAny_pure (wpAny_pure h)
theorem isn_exc {Q:Value->Shared->Prop} (hx:s.heap.get? x=some ox) (hc:ox.cls=.ref C) (X:K.In s.heap) (e:isnOk K C D=true) (h:Q (.bool false) { s with toks:=s.toks+1 }):
  wpAny (model prog w) A (call (.builtin "isinstance") [.ref x,.ref D]) Q E s:=by
 refine call_isinstance (S:=fun _ R s=>(s.heap.get? x=some ox/\K.In s.heap)/\R (.ok (.ret (.bool false))) { s with toks:=s.toks+1 }) (fun prog w A R s hs=>isinstance_outer ?_ (by intro q;cases q)) ⟨⟨hx,X⟩,h⟩
 obtain ⟨⟨hx,X⟩,h⟩:=hs
 have e':=e
 unfold isnOk at e
 simp only [Bool.and_eq_true,beq_iff_eq,decide_eq_true_eq] at e
 obtain ⟨⟨⟨⟨⟨⟨⟨⟨⟨⟨⟨e0,e1⟩,e2⟩,e3⟩,e4⟩,e5⟩,e11⟩,e6⟩,e7⟩,e8⟩,e9⟩,e10⟩:=e
 obtain ⟨hh,g,d,t,os⟩:=s
 have L0:Looks (model prog w) hh (typeOf (.ref x)) (.ref C):=hc ▸ (Looks.ld hx).andThen .now
 have LS:=looks_mroIn (M:=model prog w) X e4
 have LI:Looks (model prog w) hh (isInstance (.ref x) (.ref D)) false:=L0.andThen LS
 unfold Builtin.«isinstance.nested»
 refine wpAny_bind (L0.at ?_)
 rw [if_neg (fun q=>e0 (Value.ref.inj (beq_iff_eq.mp q)))]
 refine wpAny_bind ((looks_typeIn X e3).at ?_)
 rw [if_pos (by decide)]
 k_delta "plainIsInstance"
 refine wpAny_bind (wpAny_bind ((isType_in X e2).at ?_))
 simp only [Bool.not_true,Bool.false_eq_true,if_false]
 refine wpAny_bind (LI.at ?_)
 simp only [Bool.false_eq_true,if_false]
 refine wpAny_bind (class_of (D:=D) hx hc X e' ?_)
 refine wpAny_bind ((isType_in X e1).at ?_)
 simp only [Bool.not_true,Bool.false_eq_true,if_false]
 refine wpAny_bind (wpAny_rule ?_)
 refine LS.at ?_
 first
  | exact wpAny_pure h
  | exact wpAny_pure (wpAny_pure h)
  | exact wpAny_bind (wpAny_pure (wpAny_pure h))
end
noncomputable def XcAt (mg:Str->Option Value) (h:Heap):Prop:=∃ (K:Frag) (C D:Addr),K.In h/\mg ("TooMany" : Str)=some (.ref C)/\mg ("NoDrawing" : Str)=some (.ref D)/\isnOk K C D=true
noncomputable def cdOf (h:Heap) (a:Addr):Option ClassData:=(h.get? a).bind fun o=>match o.data with | .cls cd=>some cd | _=>none
noncomputable def refA:Value->Option Addr
 | .ref a=>some a
 | _=>none
noncomputable def fragOf (h:Heap) (C D:Addr):Frag:=
 ((D::(match cdOf h C with | some cd=>cd.mro.filterMap refA | none=>[])).flatMap fun a=>match cdOf h a with | some cd=>[a,cd.ns] | none=>[]).filterMap fun a=>(h.get? a).map fun o=>(a,o)
noncomputable def xcAt (s:Shared):Bool:=match s.heap.nsMap mainGlobals ("TooMany" : Str),s.heap.nsMap mainGlobals ("NoDrawing" : Str) with
 | some (.ref C),some (.ref D)=>isnOk (fragOf s.heap C D) C D
 | _,_=>false
theorem fragOf_in (h:Heap) (as:List Addr):Frag.In (as.filterMap fun a=>(h.get? a).map fun o=>(a,o)) h:=by
 intro a o e
 induction as with
 | nil=>cases e
 | cons b as ih=>
  rw [List.filterMap_cons] at e
  cases q:h.get? b with
  | none=>rw [q] at e;exact ih e
  | some ob=>
   rw [q] at e
   simp only [Option.map_some,List.lookup_cons] at e
   split at e
   ·rename_i hb
    cases e
    rw [eq_of_beq hb];exact q
   ·exact ih e
theorem xc_of (s:Shared) (h:xcAt s=true):XcAt (s.heap.nsMap mainGlobals) s.heap:=by
 unfold xcAt at h
 split at h
 ·rename_i C D h1 h2
  exact ⟨_,C,D,fragOf_in _ _,h1,h2,h⟩
 ·cases h
theorem XcAt.keeps {mg:Str->Option Value} {h h':Heap} (x:XcAt mg h) (k:∀ b o,h.get? b=some o->h'.get? b=some o):XcAt mg h':=let ⟨K,C,D,hK,r⟩:=x;⟨K,C,D,hK.keeps k,r⟩
end Mine.Internal
end
section
set_option backward.eqns.nonrecursive false
namespace Mine.Internal
open PySem PySem.Spec
noncomputable def view2:Program:={ PySem.Challenge.pw_uf030002_07 with main:={ PySem.Challenge.pw_uf030002_07.main with body:=PySem.Challenge.pw_uf030002_07.main.body.filter fun s=>match s with | .Assign [.Name x _] (.Constant (.str _) _ _) _=>!(x==("__name__" : Str)) | _=>true } }
noncomputable def prog:Program:=PySem.Challenge.pw_uf030002_07
def PP (w:World):Prop:=∀ (s₁:Shared) (mean:ExcName->Option Value) (mg mb:Str->Option Value) (fa a:Addr) (vs:List Value) (ns:List Int),PyProof.Rows.Top view2 (PySem.W.looseW view2 []) mean mg mb s₁.heap->XcAt mg s₁.heap->mg ("law" : Str)=some (.ref fa) ->
 s₁.heap.get? a=some { cls:=.type "list",data:=.seq vs.toArray }->PyProof.Rows.IntsAre vs ns->ns.length<=63 ->
 codeAny (model prog w) callerA (.call (.ref fa) ⟨[.ref a],[]⟩) (fun r s'=>r=.ok (.ret (.bool true))/\(∀ b o,s₁.heap.get? b=some o->s'.heap.get? b=some o)/\∃ h' tk,s'={ s₁ with heap:=h',toks:=tk }) s₁
theorem wNe:Nonempty World:=⟨PySem.W.aWorld 0⟩
noncomputable def w:World:=@Classical.epsilon World wNe fun w=>¬ PP w
theorem pp_all (h:PP w) (v:World):PP v:=Classical.byContradiction fun q=>@Classical.epsilon_spec World (fun w=>¬ PP w) ⟨v,q⟩ h
noncomputable def SeqAt (h:Heap) (T:String) (a:Addr) (vs:Array Value):Prop:=∃ n,h.get? a=some { cls:=.type T,dict:=Option.none,data:=.seq vs n,slots:=#[] }
section
noncomputable def TKs (h:Heap) (xs:List (List Int×Addr×Value)):Prop:=∀ x∈xs,∃ us,SeqAt h "tuple" x.2.1 us/\us.size<=lim
noncomputable def DictRep (h:Heap) (a:Addr) (ks:List Key) (vs:List Value):Prop:=
 (∃ kvs:List (Int×Value),h.DictOf (intKind prog w) a kvs/\ks=kvs.map (fun p=>Key.int p.1)/\vs=kvs.map (·.2)) \/
 (∃ xs:List (List Int×Addr×Value),h.DictOfH (tupleKind (intKind prog w)) a xs/\ks=xs.map (fun p=>Key.tup p.1)/\vs=xs.map (·.2.2)/\TKs h xs)
inductive TAt (h:Heap) (v:Value) (n:Nat) (R:List Value->Prop):Prop where
 | mk (a:Addr) (vs:Array Value) (e:v=.ref a) (q:SeqAt h "tuple" a vs) (ln:n<=lim) (r:R vs.toList)
inductive LAt (h:Heap) (O:Addr->Prop) (v:Value) (n:Nat) (R:List Value->Prop):Prop where
 | mk (a:Addr) (vs:Array Value) (e:v=.ref a) (pa:O a) (q:SeqAt h "list" a vs) (ln:n<=lim) (r:R vs.toList)
inductive DAt (h:Heap) (O:Addr->Prop) (v:Value) (l:List (Key×PV)) (R:List Value->Prop):Prop where
 | mk (a:Addr) (vs:List Value) (e:v=.ref a) (pa:O a) (n1:a≠1) (ln:l.length<=lim) (q:DictRep h a (l.map (·.1)) vs) (r:R vs)
inductive CAt (vs:List Value) (A:Value->Prop) (B:List Value->Prop):Prop where
 | mk (v:Value) (r:List Value) (e:vs=v::r) (a:A v) (b:B r)
variable (h:Heap) (P:Addr->Prop)
mutual
noncomputable def Rd:PV->Value->Prop
 | .none,v=>v=.none
 | .bool b,v=>v=.bool b
 | .int i,v=>∃ t,v=.int i t
 | .tuple l,v=>TAt h v l.length (Rds l)
 | .list l,v=>LAt h P v l.length (Rds l)
 | .dict l,v=>DAt h P v l (RdKV l)
noncomputable def Rds:List PV->List Value->Prop
 | [],vs=>vs=[]
 | d::ds,vs=>CAt vs (Rd d) (Rds ds)
noncomputable def RdKV:List (Key×PV)->List Value->Prop
 | [],vs=>vs=[]
 | (_,d)::ds,vs=>CAt vs (Rd d) (RdKV ds)
end
noncomputable def RdO (O:Addr->Prop):PV->Value->Prop
 | .list l,v=>LAt h O v l.length (Rds h P l)
 | .dict l,v=>DAt h O v l (RdKV h P l)
 | d,v=>Rd h P d v
end
noncomputable def LD (o:Obj):Prop:=o.cls=.type "list" \/ o.cls=.type "dict"
noncomputable def Mine1 (P:Addr->Prop) (a:Addr) (o:Obj):Prop:=
 (∃ vs n,o.data=.seq vs n/\(o.cls=.type "tuple" \/ (P a/\o.cls=.type "list")))\/(∃ es n,o.data=.dict es n/\P a/\o.cls=.type "dict")
noncomputable def Kp (P:Addr->Prop) (h h':Heap):Prop:=∀ a o,h.get? a=some o->Mine1 P a o->h'.get? a=some o
section
variable {h h':Heap} {P P':Addr->Prop}
theorem SeqAt.to {T:String} {a:Addr} {vs:Array Value} (x:SeqAt h T a vs) (k:∀ o n,h.get? a=some o->o.cls=.type T->o.data=.seq vs n->h'.get? a=some o):SeqAt h' T a vs:=
 let ⟨n,ho⟩:=x;⟨n,k _ n ho rfl rfl⟩
theorem SeqAt.isTuple {a:Addr} {vs:Array Value} (x:SeqAt h "tuple" a vs):h.IsTuple a vs:=let ⟨n,ho⟩:=x;⟨_,ho,rfl,n,rfl⟩
theorem isTupleKey_to {ks:List Int} {a:Addr} (k:Kp P h h') (x:IsTupleKey (intKind prog w) h ks a):IsTupleKey (intKind prog w) h' ks a:=
 let ⟨o,it,n,ho,hc,hd,r⟩:=x;⟨o,it,n,k a o ho (.inl ⟨_,_,hd,.inl hc⟩),hc,hd,r⟩
theorem TKs.to {xs:List (List Int×Addr×Value)} (k:Kp P h h') (x:TKs h xs):TKs h' xs:=fun y hy=>
 let ⟨us,q,l⟩:=x y hy;⟨us,q.to fun o _ ho hc hd=>k _ o ho (.inl ⟨_,_,hd,.inl hc⟩),l⟩
theorem DictRep.to {a:Addr} {ks:List Key} {vs:List Value} (k:Kp P h h') (pa:P a) (x:DictRep h a ks vs):DictRep h' a ks vs:=by
 rcases x with ⟨kvs,⟨o,es,ep,ho,hx,hd,r⟩,e⟩ | ⟨xs,⟨o,es,ep,ho,hx,hd,he,hk,hn⟩,e,e',e2⟩
 ·exact .inl ⟨kvs,⟨o,es,ep,k a o ho (.inr ⟨_,_,hd,pa,hx.1⟩),hx,hd,r⟩,e⟩
 ·exact .inr ⟨xs,⟨o,es,ep,k a o ho (.inr ⟨_,_,hd,pa,hx.1⟩),hx,hd,he,fun x hm=>isTupleKey_to k (hk x hm),hn⟩,e,e',e2.to k⟩
mutual
theorem Rd.to (k:Kp P h h'):∀ (d:PV) {v:Value},Rd h P d v->Rd h' P d v
 | .none,_,x=>x
 | .bool _,_,x=>x
 | .int _,_,x=>x
 | .tuple l,_,⟨a,vs,e,q,n,r⟩=>⟨a,vs,e,q.to fun o _ ho hc hd=>k a o ho (.inl ⟨_,_,hd,.inl hc⟩),n,Rds.to k l r⟩
 | .list l,_,⟨a,vs,e,pa,q,n,r⟩=>⟨a,vs,e,pa,q.to fun o _ ho hc hd=>k a o ho (.inl ⟨_,_,hd,.inr ⟨pa,hc⟩⟩),n,Rds.to k l r⟩
 | .dict l,_,⟨a,vs,e,pa,n1,n,q,r⟩=>⟨a,vs,e,pa,n1,n,q.to k pa,RdKV.to k l r⟩
theorem Rds.to (k:Kp P h h'):∀ (l:List PV) {vs:List Value},Rds h P l vs->Rds h' P l vs
 | [],_,x=>x
 | d::ds,_,⟨v,r,e,a,b⟩=>⟨v,r,e,Rd.to k d a,Rds.to k ds b⟩
theorem RdKV.to (k:Kp P h h'):∀ (l:List (Key×PV)) {vs:List Value},RdKV h P l vs->RdKV h' P l vs
 | [],_,x=>x
 | (_,d)::ds,_,⟨v,r,e,a,b⟩=>⟨v,r,e,Rd.to k d a,RdKV.to k ds b⟩
end
mutual
theorem Rd.imp (k:∀ a o,h.get? a=some o->LD o->P a->P' a):∀ (d:PV) {v:Value},Rd h P d v->Rd h P' d v
 | .none,_,x=>x
 | .bool _,_,x=>x
 | .int _,_,x=>x
 | .tuple l,_,⟨a,vs,e,q,n,r⟩=>⟨a,vs,e,q,n,Rds.imp k l r⟩
 | .list l,_,⟨a,vs,e,pa,q,n,r⟩=>⟨a,vs,e,(let ⟨_,ho⟩:=q;k a _ ho (.inl rfl) pa),q,n,Rds.imp k l r⟩
 | .dict l,_,⟨a,vs,e,pa,n1,n,q,r⟩=>⟨a,vs,e,(by
   rcases q with ⟨_,⟨o,_,_,ho,hx,_⟩,_⟩ | ⟨_,⟨o,_,_,ho,hx,_⟩,_⟩<;>exact k a o ho (.inr hx.1) pa),n1,n,q,RdKV.imp k l r⟩
theorem Rds.imp (k:∀ a o,h.get? a=some o->LD o->P a->P' a):∀ (l:List PV) {vs:List Value},Rds h P l vs->Rds h P' l vs
 | [],_,x=>x
 | d::ds,_,⟨v,r,e,a,b⟩=>⟨v,r,e,Rd.imp k d a,Rds.imp k ds b⟩
theorem RdKV.imp (k:∀ a o,h.get? a=some o->LD o->P a->P' a):∀ (l:List (Key×PV)) {vs:List Value},RdKV h P l vs->RdKV h P' l vs
 | [],_,x=>x
 | (_,d)::ds,_,⟨v,r,e,a,b⟩=>⟨v,r,e,Rd.imp k d a,RdKV.imp k ds b⟩
end
mutual
theorem Rd.ofImm:∀ (d:PV) {v:Value},d.imm=true->Rd h P d v->Rd h P' d v
 | .none,_,_,x=>x
 | .bool _,_,_,x=>x
 | .int _,_,_,x=>x
 | .tuple l,_,i,⟨a,vs,e,q,n,r⟩=>⟨a,vs,e,q,n,Rds.ofImm l (by simpa [PV.imm] using i) r⟩
 | .list l,_,i,_=>by simp [PV.imm] at i
 | .dict l,_,i,_=>by simp [PV.imm] at i
theorem Rds.ofImm:∀ (l:List PV) {vs:List Value},PV.imms l=true->Rds h P l vs->Rds h P' l vs
 | [],_,_,x=>x
 | d::ds,_,i,⟨v,r,e,a,b⟩=>by
  simp only [PV.imms,Bool.and_eq_true] at i
  exact ⟨v,r,e,Rd.ofImm d i.1 a,Rds.ofImm ds i.2 b⟩
end
theorem RdKV.ofImm:∀ (l:List (Key×PV)) {vs:List Value},PV.imms (l.map (·.2))=true->RdKV h P l vs->RdKV h P' l vs
 | [],_,_,x=>x
 | (_,d)::ds,_,i,⟨v,r,e,a,b⟩=>by
  simp only [List.map_cons,PV.imms,Bool.and_eq_true] at i
  exact ⟨v,r,e,Rd.ofImm d i.1 a,RdKV.ofImm ds i.2 b⟩
theorem Rds.length:∀ {l:List PV} {vs:List Value},Rds h P l vs->vs.length=l.length
 | [],_,x=>by rw [show _=_ from x];rfl
 | d::ds,_,⟨v,r,e,a,b⟩=>by subst e;simp [Rds.length b]
theorem Rds.get:∀ {l:List PV} {vs:List Value} {i:Nat} {d:PV},Rds h P l vs->l[i]?=some d->∃ v,vs[i]?=some v/\Rd h P d v
 | [],_,_,_,_,e=>by simp at e
 | d::ds,_,0,_,⟨v,r,e,a,b⟩,q=>by subst e;simp at q;subst q;exact ⟨v,rfl,a⟩
 | d::ds,_,i+1,_,⟨v,r,e,a,b⟩,q=>by
  subst e
  simp only [List.getElem?_cons_succ] at q ⊢
  exact Rds.get b q
theorem Rds.none:∀ {l:List PV} {vs:List Value} {i:Nat},Rds h P l vs->l[i]?=Option.none->vs[i]?=Option.none:=fun x e=>by
 have:=x.length
 simp only [List.getElem?_eq_none_iff] at e ⊢
 exact o286 this e
theorem Rds.append:∀ {l m:List PV} {vs us:List Value},Rds h P l vs->Rds h P m us->Rds h P (l++m) (vs++us)
 | [],_,_,_,x,y=>by rw [show _=_ from x];exact y
 | d::ds,_,_,_,⟨v,r,e,a,b⟩,y=>by subst e;exact ⟨v,r++_,rfl,a,b.append y⟩
theorem Rds.drop:∀ {l:List PV} {vs:List Value} (n:Nat),Rds h P l vs->Rds h P (l.drop n) (vs.drop n)
 | _,_,0,x=>x
 | [],_,n+1,x=>by rw [show _=_ from x];rfl
 | d::ds,_,n+1,⟨v,r,e,a,b⟩=>by subst e;exact b.drop n
theorem Rds.take:∀ {l:List PV} {vs:List Value} (n:Nat),Rds h P l vs->Rds h P (l.take n) (vs.take n)
 | _,_,0,_=>rfl
 | [],_,n+1,x=>by rw [show _=_ from x];rfl
 | d::ds,_,n+1,⟨v,r,e,a,b⟩=>by subst e;exact ⟨v,r.take n,rfl,a,b.take n⟩
theorem Rds.one {d:PV} {v:Value} (x:Rd h P d v):Rds h P [d] [v]:=⟨v,[],rfl,x,rfl⟩
theorem RdO.imp {O O':Addr->Prop} {d:PV} {v:Value} (ko:∀ a o,h.get? a=some o->LD o->O a->O' a) (k:∀ a o,h.get? a=some o->LD o->P a->P' a) (x:RdO h P O d v):RdO h P' O' d v:=by
 cases d with
 | list l=>obtain ⟨a,vs,e,pa,q,n,r⟩:=x;exact ⟨a,vs,e,(let ⟨_,ho⟩:=q;ko a _ ho (.inl rfl) pa),q,n,Rds.imp k l r⟩
 | dict l=>
  obtain ⟨a,vs,e,pa,n1,n,q,r⟩:=x
  exact ⟨a,vs,e,(by rcases q with ⟨_,⟨o,_,_,ho,hx,_⟩,_⟩ | ⟨_,⟨o,_,_,ho,hx,_⟩,_⟩<;>exact ko a o ho (.inr hx.1) pa),n1,n,q,RdKV.imp k l r⟩
 | none=>exact x
 | bool _=>exact x
 | int _=>exact x
 | tuple l=>exact Rd.imp k (.tuple l) x
theorem RdO.to {O:Addr->Prop} {d:PV} {v:Value} (k:Kp P h h') (ko:Kp O h h') (x:RdO h P O d v):RdO h' P O d v:=by
 cases d with
 | list l=>obtain ⟨a,vs,e,pa,q,n,r⟩:=x;exact ⟨a,vs,e,pa,q.to fun o _ ho hc hd=>ko a o ho (.inl ⟨_,_,hd,.inr ⟨pa,hc⟩⟩),n,Rds.to k l r⟩
 | dict l=>obtain ⟨a,vs,e,pa,n1,n,q,r⟩:=x;exact ⟨a,vs,e,pa,n1,n,q.to ko pa,RdKV.to k l r⟩
 | none=>exact x
 | bool _=>exact x
 | int _=>exact x
 | tuple l=>exact Rd.to k (.tuple l) x
theorem RdO.rd {O:Addr->Prop} {d:PV} {v:Value} (x:RdO h P O d v):Rd h (fun a=>P a\/O a) d v:=by
 cases d with
 | list l=>obtain ⟨a,vs,e,pa,q,n,r⟩:=x;exact ⟨a,vs,e,.inr pa,q,n,Rds.imp (fun _ _ _ _ p=>.inl p) l r⟩
 | dict l=>obtain ⟨a,vs,e,pa,n1,n,q,r⟩:=x;exact ⟨a,vs,e,.inr pa,n1,n,q,RdKV.imp (fun _ _ _ _ p=>.inl p) l r⟩
 | none=>exact x
 | bool _=>exact x
 | int _=>exact x
 | tuple l=>exact Rd.imp (fun _ _ _ _ p=>.inl p) (.tuple l) x
theorem Rd.o {d:PV} {v:Value} (x:Rd h P d v):RdO h P P d v:=by
 cases d with
 | list l=>exact x
 | dict l=>exact x
 | none=>exact x
 | bool _=>exact x
 | int _=>exact x
 | tuple l=>exact x
end
end Mine.Internal
end
section
namespace Mine.Internal
open PySem PySem.Spec
noncomputable abbrev up (s:Shared) (h:Heap) (tk:Nat):Shared:={ s with heap:=h,toks:=tk }
noncomputable def frs (A:Around):List Addr:=(A.frames.getD []).filterMap (·.frame)
noncomputable def GrowH (l:List Addr) (h h':Heap):Prop:=∀ b o,h.get? b=some o->(b∉l->h'.get? b=some o)/\∃ sl,h'.get? b=some { o with slots:=sl }
inductive Grow (A:Around) (s s':Shared):Prop where
 | mk (h':Heap) (tk:Nat) (e:s'=(up s (h') (tk))) (k:GrowH (frs A) s.heap h')
theorem GrowH.of_keeps {l:List Addr} {h h':Heap} (k:∀ b o,h.get? b=some o->h'.get? b=some o):GrowH l h h':=fun b o e=>⟨fun _=>k b o e,o.slots,k b o e⟩
theorem GrowH.refl {l:List Addr} (h:Heap):GrowH l h h:=.of_keeps fun _ _ e=>e
theorem GrowH.trans {l:List Addr} {h h' h'':Heap} (x:GrowH l h h') (y:GrowH l h' h''):GrowH l h h'':=fun b o ho=>by
 refine ⟨fun hb=>(y b o ((x b o ho).1 hb)).1 hb,?_⟩
 obtain ⟨sl,e⟩:=(x b o ho).2
 obtain ⟨sl',e'⟩:=(y b _ e).2
 exact ⟨sl',e'⟩
theorem GrowH.none {l:List Addr} {h h':Heap} (x:GrowH l h h') {a:Addr} (e:h'.get? a=Option.none):h.get? a=Option.none:=by
 cases q:h.get? a with
 | none=>rfl
 | some o=>obtain ⟨sl,e'⟩:=(x a o q).2;rw [e] at e';cases e'
theorem GrowH.some {l:List Addr} {h h':Heap} (x:GrowH l h h') {a:Addr} (e:∃ o,h.get? a=some o):∃ o,h'.get? a=some o:=by
 obtain ⟨o,e⟩:=e
 obtain ⟨sl,e'⟩:=(x a o e).2
 exact ⟨_,e'⟩
theorem GrowH.ns {l:List Addr} {h h':Heap} (x:GrowH l h h') {a:Addr} {m:Str->Option Value} (hn:h.Ns a m):h'.Ns a m:=by
 obtain ⟨o,es,ep,ho,hd,r⟩:=hn
 obtain ⟨sl,e⟩:=(x a o ho).2
 exact ⟨_,es,ep,e,hd,r⟩
theorem GrowH.cell {l:List Addr} {h h':Heap} (x:GrowH l h h') {a:Addr} {v:Option Value} (hn:h.IsCell a v):h'.IsCell a v:=by
 obtain ⟨o,ho,hd⟩:=hn
 obtain ⟨sl,e⟩:=(x a o ho).2
 exact ⟨_,e,hd⟩
theorem Grow.of_keeps {A:Around} {s s':Shared} (k:Keeps s s'):Grow A s s':=let ⟨h',tk,e,q⟩:=k;⟨h',tk,e,.of_keeps q⟩
theorem Grow.refl {A:Around} (s:Shared):Grow A s s:=⟨s.heap,s.toks,rfl,.refl _⟩
theorem Grow.trans {A:Around} {s s' s'':Shared} (x:Grow A s s') (y:Grow A s' s''):Grow A s s'':=by
 obtain ⟨h1,t1,rfl,k1⟩:=x
 obtain ⟨h2,t2,rfl,k2⟩:=y
 exact ⟨h2,t2,rfl,k1.trans k2⟩
theorem Grow.h {A:Around} {s s':Shared} (x:Grow A s s'):GrowH (frs A) s.heap s'.heap:=by obtain ⟨h1,t1,rfl,k1⟩:=x;exact k1
theorem Grow.tok {A:Around} (s:Shared) (t:Nat):Grow A s { s with toks:=t }:=⟨s.heap,t,rfl,.refl _⟩
theorem Grow.push {A:Around} (s:Shared) (o:Obj) (t:Nat):Grow A s (up s (s.heap.push o) (t)):=⟨_,t,rfl,.of_keeps fun _ _ e=>Heap.get?_push_of_some _ e⟩
structure Cx where
 env:Env
 A:Around
 h0:Heap
 P0:Addr->Prop
 names:List (Str×Nat)
 mv:List Nat
noncomputable def dum:Nat:=1000000007
noncomputable def Fz (c:Cx) (own:Addr->Option Nat) (a:Addr):Prop:=(c.P0 a\/c.h0.get? a=none)/\own a=none
inductive VarAt (h:Heap) (env:Env) (x:Str) (v:Value):Prop where
 | inl (k:env.kindOf x=some .local) (m:Str->Option Value) (hn:h.Ns env.locals m) (e:m x=some v)
 | inr (k:env.kindOf x=some .cell) (c:Addr) (hl:env.cells.lookup x=some c) (hc:h.IsCell c (some v))
structure CxOk (c:Cx):Prop where
 kind:c.env.scope.kind=.function
 nodupN:(c.names.map (·.1)).Nodup
 nodupI:(c.names.map (·.2)).Nodup
 kinds:∀ x i,(x,i)∈c.names->c.env.kindOf x=some .local\/(c.env.kindOf x=some .cell/\∃ a,c.env.cells.lookup x=some a)
 debug:∀ x i,(x,i)∈c.names->(x==("__debug__" : Str))=false
 apart:c.env.cells.Pairwise fun x y=>x.2≠y.2
 handled:c.A.handled=none
 dumNot:dum∉c.mv
 units:c.A.units+200 < cLine
 frames:∃ l,c.A.frames=some l/\∀ e∈l,e.scope.kind≠.module/\∃ L,e.frame=some L
section
noncomputable def VRd (h:Heap) (c:Cx) (own:Addr->Option Nat) (i:Nat) (d:PV) (v:Value):Prop:=
 if i∈c.mv then RdO h (Fz c own) (fun a=>own a=some i) d v else Rd h (Fz c own) d v
structure St (c:Cx) (own:Addr->Option Nat) (ρ:Slots) (s:Shared):Prop where
 base:GrowH (frs c.A) c.h0 s.heap
 fr:∀ a∈frs c.A,own a=some dum/\∃ m,s.heap.Ns a m
 loc:own c.env.locals=some dum/\∃ m,s.heap.Ns c.env.locals m
 locNew:c.h0.get? c.env.locals=none
 cell:∀ n a,c.env.cells.lookup n=some a->∃ v,s.heap.IsCell a v
 cellNew:∀ n a,c.env.cells.lookup n=some a->c.h0.get? a=none
 ownIn:∀ a,own a≠none->∃ o,s.heap.get? a=some o
 ownNew:∀ a i,own a=some i->i∈c.mv->c.h0.get? a=none
 vars:∀ x i d,(x,i)∈c.names->ρ[i]?=some (some d)->∃ v,VarAt s.heap c.env x v/\VRd s.heap c own i d v
end
section
variable {c:Cx} {own:Addr->Option Nat} {ρ:Slots} {s s':Shared}
theorem VarAt.grow {l:List Addr} {h h':Heap} {x:Str} {v:Value} {env:Env} (g:GrowH l h h'):VarAt h env x v->VarAt h' env x v
 | .inl k m hn e=>.inl k m (g.ns hn) e
 | .inr k a hl hc=>.inr k a hl (g.cell hc)
theorem St.kp (x:St c own ρ s) {h':Heap} {P:Addr->Prop} (hP:∀ a,P a->own a≠some dum) (g:GrowH (frs c.A) s.heap h'):Kp P s.heap h':=fun a o ho hm=>by
 refine (g a o ho).1 fun hf=>?_
 obtain ⟨h1,m,o',es,ep,ho',hd,_⟩:=x.fr a hf
 rw [ho] at ho';cases ho'
 rcases hm with ⟨vs,n,hd',_⟩ | ⟨_,_,_,hp,_⟩
 ·rw [hd] at hd';cases hd'
 ·exact hP a hp h1
theorem fz_dum {a:Addr} (x:Fz c own a):own a≠some dum:=fun e=>by rw [x.2] at e;cases e
theorem VRd.kp {h h':Heap} {i:Nat} {d:PV} {v:Value} (k1:Kp (Fz c own) h h') (k2:i∈c.mv->Kp (fun a=>own a=some i) h h') (x:VRd h c own i d v):VRd h' c own i d v:=by
 unfold VRd at x ⊢
 split
 ·rename_i hi;rw [if_pos hi] at x;exact x.to k1 (k2 hi)
 ·rename_i hi;rw [if_neg hi] at x;exact Rd.to k1 d x
theorem St.grow (ok:CxOk c) (x:St c own ρ s) (g:Grow c.A s s'):St c own ρ s' where
 base:=x.base.trans g.h
 fr:=fun a ha=>let ⟨h1,m,hm⟩:=x.fr a ha;⟨h1,m,g.h.ns hm⟩
 loc:=let ⟨h1,m,hm⟩:=x.loc;⟨h1,m,g.h.ns hm⟩
 locNew:=x.locNew
 cell:=fun n a h=>let ⟨v,hv⟩:=x.cell n a h;⟨v,g.h.cell hv⟩
 cellNew:=x.cellNew
 ownIn:=fun a h=>g.h.some (x.ownIn a h)
 ownNew:=x.ownNew
 vars:=fun y i d hm hd=>by
  obtain ⟨v,hv,hr⟩:=x.vars y i d hm hd
  refine ⟨v,hv.grow g.h,hr.kp (x.kp (fun a h=>fz_dum h) g.h) fun hi=>x.kp (fun a h e=>?_) g.h⟩
  rw [h] at e;cases e;exact ok.dumNot hi
theorem St.load {M:Model} {A:Around} {Q:Value->Shared->Prop} {E:Value->Shared->Prop} {y:Str} {i:Nat} {d:PV} (ok:CxOk c) (x:St c own ρ s) (hm:(y,i)∈c.names) (hd:ρ[i]?=some (some d))
  (h:∀ v,VRd s.heap c own i d v->Q v s):wpAny M A (loadName c.env y) Q E s:=by
 obtain ⟨v,hv,hr⟩:=x.vars y i d hm hd
 rcases hv with ⟨k,m,hn,e⟩ | ⟨k,a,hl,hc⟩
 ·exact wpAny_loadName_local ok.kind k hn e (h v hr)
 ·exact wpAny_loadName_cell ok.kind k hl hc (h v hr)
end
end Mine.Internal
end
section
set_option backward.eqns.nonrecursive false
namespace Mine.Internal
open PySem
inductive Cl where | safe | fresh | own | any
 deriving DecidableEq
inductive GE where
 | fn (i ar:Nat) (fr:Bool)
 | const (d:PV)
structure TC where
 scope:List (Str×NameKind)
 slots:List (Str×Nat)
 mv:List Nat
 G:List (Str×GE)
 cbase:Nat
noncomputable def seqO {α:Type}:List (Option α)->Option (List α)
 | []=>some []
 | none::_=>none
 | some a::r=>(seqO r).map (a::·)
noncomputable def Cl.inner:Cl->Bool
 | .safe | .fresh=>true
 | _=>false
noncomputable def Cl.top:Cl->Bool
 | .any=>false
 | _=>true
noncomputable def clsJoin (l:List Cl):Cl:=if l.all Cl.inner then .safe else .any
noncomputable def bopOf:Operator->Option BOp
 | .Add=>some .add | .Sub=>some .sub | .Mult=>some .mul | .FloorDiv=>some .fdiv | .Mod=>some .mod
 | _=>none
noncomputable def copOf:CmpOp->COp
 | .Eq=>.eq | .NotEq=>.ne | .Lt=>.lt | .Gt=>.gt | .In=>.isIn | .NotIn=>.notIn | _=>.no
noncomputable def TC.glob (t:TC) (x:Str):Bool:=t.scope.lookup x==some .globalImplicit
noncomputable def TC.bi (t:TC) (x y:Str):Bool:=t.glob x&&(t.G.lookup x).isNone&&x==y
noncomputable def TC.slot (t:TC) (x:Str):Option Nat:=
 if t.scope.lookup x==some .local||t.scope.lookup x==some .cell then t.slots.lookup x else none
noncomputable def tyTab:List (Str×Ty):=[("int",.int),("bool",.bool),("tuple",.tuple)]
noncomputable def tyOf (t:TC):Expr->Option Ty
 | .Name x _=>if t.bi x x then tyTab.lookup x else none
 | _=>none
noncomputable def primTab:List (Str×Prim):=[("len",.len),("abs",.abs),("list",.listOf),("tuple",.tupleOf),("int",.intOf),("all",.all),("max",.max2)]
noncomputable def primOf (t:TC) (f:Str):Option Prim:=if t.bi f f then primTab.lookup f else none
noncomputable def compNames (outer:List (Str×NameKind)) (names:List (Str×NameKind)):List (Str×NameKind):=
 names.map fun p=>if p.2==.free&&outer.lookup p.1==some .cell then (p.1,.cell) else p
noncomputable def compSlots (t:TC) (names:List (Str×NameKind)) (xs:List Str):List (Str×Nat):=
 xs.zipIdx.map (fun p=>(p.1,t.cbase+p.2))++t.slots.filter fun p=>!xs.contains p.1&&(compNames t.scope names).lookup p.1==some .cell
noncomputable def compTC (t:TC) (names:List (Str×NameKind)) (xs:List Str):TC:=
 { t with scope:=compNames t.scope names,slots:=compSlots t names xs,cbase:=t.cbase+xs.length }
noncomputable def nameE:Expr->Option Str
 | .Name x _=>some x
 | _=>none
noncomputable def tgtNames:Expr->Option (Bool×List Str)
 | .Name x _=>some (true,[x])
 | .Tuple es _ _=>(seqO (es.map nameE)).map fun l=>(false,l)
 | _=>none
noncomputable def compOk (t:TC) (names:List (Str×NameKind)) (xs:List Str):Bool:=
 xs.all (fun x=>names.lookup x==some .local&&!(x==("__debug__" : Str))&&!(x==(".0" : Str)))&&decide xs.Nodup &&
 names.all (fun p=>p.2==.local||p.2==.globalImplicit||(p.2==.free&&t.scope.lookup p.1==some .cell&&(t.slots.lookup p.1).isSome)) &&
 names.all (fun p=>p.2 != .local||p.1==(".0" : Str)||xs.contains p.1)&&decide ((names.map (·.1)).Nodup)
noncomputable def starred:Expr->Bool
 | .Starred ..=>true
 | _=>false
end Mine.Internal
end
section
set_option backward.eqns.nonrecursive false
namespace Mine.Internal
open PySem PySem.Spec PyProof.Rows
section
noncomputable def RdC (c:Cx) (own:Addr->Option Nat) (h₀ h:Heap):Cl->PV->Value->Prop
 | .safe,d,v=>Rd h (Fz c own) d v
 | .fresh,d,v=>RdO h (fun b=>Fz c own b/\v≠.ref b) (fun a=>h₀.get? a=none) d v
 | .own,d,v=>RdO h (Fz c own) (fun a=>c.h0.get? a=none/\own a≠some dum/\own a≠none) d v
 | .any,d,v=>Rd h (fun a=>(c.P0 a\/c.h0.get? a=none)/\own a≠some dum) d v
abbrev Tp (c:Cx) (own:Addr->Option Nat) (h:Heap) (d:PV) (v:Value):Prop:=RdO h (Fz c own) (fun a=>own a≠some dum) d v
end
section
variable {c:Cx} {own:Addr->Option Nat} {ρ:Slots} {s s':Shared} {k:Cl} {d:PV} {v:Value} {h₀ h h':Heap}
theorem St.newOwn (x:St c own ρ s) {a:Addr} (e:s.heap.get? a=none):own a=none:=by
 cases q:own a with
 | none=>rfl
 | some i=>obtain ⟨o,ho⟩:=x.ownIn a (by rw [q];exact fun z=>by cases z);rw [e] at ho;cases ho
theorem St.newBase (x:St c own ρ s) {a:Addr} (e:s.heap.get? a=none):c.h0.get? a=none:=x.base.none e
theorem St.newFz (x:St c own ρ s) {a:Addr} (e:s.heap.get? a=none):Fz c own a:=⟨.inr (x.newBase e),x.newOwn e⟩
theorem RdC.tp (x:St c own ρ s) (hk:k.top=true) (r:RdC c own s.heap h k d v):Tp c own h d v:=by
 cases k with
 | safe=>exact RdO.imp (fun a _ _ _ p=>fz_dum p) (fun _ _ _ _ p=>p) (Rd.o r)
 | fresh=>exact RdO.imp (fun a _ _ _ (p:s.heap.get? a=none)=>by rw [x.newOwn p];exact fun z=>by cases z) (fun _ _ _ _ p=>p.1) r
 | own=>exact RdO.imp (fun a _ _ _ p=>p.2.1) (fun _ _ _ _ p=>p) r
 | any=>cases hk
theorem RdC.rd (x:St c own ρ s) (hk:k.inner=true) (r:RdC c own s.heap h k d v):Rd h (Fz c own) d v:=by
 cases k with
 | safe=>exact r
 | fresh=>exact Rd.imp (fun a _ _ _ p=>p.elim (fun q=>q.1) fun (q:s.heap.get? a=none)=>x.newFz q) d (RdO.rd r)
 | own=>cases hk
 | any=>cases hk
theorem RdC.any (x:St c own ρ s) (r:RdC c own s.heap h k d v):Rd h (fun a=>(c.P0 a\/c.h0.get? a=none)/\own a≠some dum) d v:=by
 cases k with
 | safe=>exact Rd.imp (fun a _ _ _ p=>⟨p.1,fz_dum p⟩) d r
 | fresh=>exact Rd.imp (fun a _ _ _ p=>p.elim (fun q=>⟨q.1.1,fz_dum q.1⟩) fun (q:s.heap.get? a=none)=>⟨.inr (x.newBase q),by rw [x.newOwn q];exact fun z=>by cases z⟩) d (RdO.rd r)
 | own=>exact Rd.imp (fun a _ _ _ p=>p.elim (fun q=>⟨q.1,fz_dum q⟩) fun q=>⟨.inr q.1,q.2.1⟩) d (RdO.rd r)
 | any=>exact r
theorem RdC.back {l:List Addr} (g:GrowH l h₀ s.heap) (r:RdC c own s.heap h k d v):RdC c own h₀ h k d v:=by
 cases k with
 | fresh=>exact RdO.imp (fun a _ _ _ (p:s.heap.get? a=none)=>g.none p) (fun _ _ _ _ p=>p) r
 | _=>exact r
theorem RdC.grow (x:St c own ρ s) {s₁ s₂:Shared} (g₁:Grow c.A s s₁) (ok:CxOk c) (g:Grow c.A s₁ s₂) (r:RdC c own s.heap s₁.heap k d v):RdC c own s.heap s₂.heap k d v:=by
 have x₁:=x.grow ok g₁
 cases k with
 | safe=>exact Rd.to (x₁.kp (fun a h=>fz_dum h) g.h) d r
 | fresh=>exact RdO.to (x₁.kp (fun a h=>fz_dum h.1) g.h) (x₁.kp (fun a (p:s.heap.get? a=none)=>by rw [x.newOwn p];exact fun z=>by cases z) g.h) r
 | own=>exact RdO.to (x₁.kp (fun a h=>fz_dum h) g.h) (x₁.kp (fun a p=>p.2.1) g.h) r
 | any=>exact Rd.to (x₁.kp (fun a p=>p.2) g.h) d r
theorem Tp.grow (x:St c own ρ s) (g:Grow c.A s s') (r:Tp c own s.heap d v):Tp c own s'.heap d v:=
 RdO.to (x.kp (fun a h=>fz_dum h) g.h) (x.kp (fun a p=>p) g.h) r
theorem freshC (hd:∀ l,d≠.list l) (hd':∀ l,d≠.dict l) (r:Rd h (Fz c own) d v):RdC c own h₀ h .fresh d v:=by
 cases d with
 | list l=>exact absurd rfl (hd l)
 | dict l=>exact absurd rfl (hd' l)
 | none=>exact r
 | bool _=>exact r
 | int _=>exact r
 | tuple l=>
  obtain ⟨a,vs,rfl,⟨n,hs⟩,hn,hr⟩:=r
  refine ⟨a,vs,rfl,⟨n,hs⟩,hn,Rds.imp (fun b o ho hc p=>⟨p,fun q=>?_⟩) l hr⟩
  injection q with q;subst q;rw [hs] at ho;cases ho
  rcases hc with hc | hc<;>simp at hc
theorem newListC (x:St c own ρ s) {l:List PV} {vs:Array Value} (hn:l.length<=lim) (r:Rds s.heap (Fz c own) l vs.toList):
  RdC c own s.heap (s.heap.push { cls:=.type "list",data:=.seq vs }) .fresh (.list l) (.ref s.heap.objs.size):=by
 have e:s.heap.get? s.heap.objs.size=none:=by
  cases q:s.heap.get? s.heap.objs.size with
  | none=>rfl
  | some o=>exact absurd (Heap.lt_size q) (Nat.lt_irrefl _)
 refine ⟨_,vs,rfl,e,⟨0,Heap.get?_push_size _ rfl⟩,hn,?_⟩
 refine Rds.to (fun a o ho _=>Heap.get?_push_of_some _ ho) l (Rds.imp (fun a o ho _ p=>⟨p,fun q=>?_⟩) l r)
 injection q with q;rw [<-q,e] at ho;cases ho
theorem newTupleC {l:List PV} {vs:Array Value} {P:Addr->Prop} (hn:l.length<=lim) (r:Rds h P l vs.toList):
  Rd (h.push { cls:=.type "tuple",data:=.seq vs }) P (.tuple l) (.ref h.objs.size):=
 ⟨_,vs,rfl,⟨0,Heap.get?_push_size _ rfl⟩,hn,Rds.to (fun a o ho _=>Heap.get?_push_of_some _ ho) l r⟩
theorem newSize (h:Heap):h.get? h.objs.size=none:=by
 cases q:h.get? h.objs.size with
 | none=>rfl
 | some o=>exact absurd (Heap.lt_size q) (Nat.lt_irrefl _)
end
end Mine.Internal
end
section
namespace Mine.Internal
open PySem PySem.Spec PyProof.Rows
section
set_option maxRecDepth 100000
theorem noFill_tuple_mul:fillsNumberSlot (.type "tuple") "mul" = pure false:=
 PySem.fillsNumberSlot_seq (id := "tuple.__mul__") (r:=some (.builtin "tuple.__rmul__")) PySem.F.slot_tuple_mul.lookup (by decide +kernel) PySem.F.slot_tuple_rmul.lookup (by decide +kernel)
theorem repeat_tuple:seqRepeat? (.type "tuple")=pure (some (.builtin "tuple.__mul__")):=by
 unfold seqRepeat?
 rw [PySem.seqSlot_of (T := "tuple") (name := "__mul__") (id := "tuple.__mul__") PySem.F.slot_tuple_mul.lookup (by decide +kernel),PySem.seqSlot_of (T := "tuple") (name := "__rmul__") (id := "tuple.__rmul__") PySem.F.slot_tuple_rmul.lookup (by decide +kernel)]
 rfl
theorem rmul_declines (a:Int) (t:Tok) (l:Addr) (items:Array Value) (n:Nat):
  Meets (Builtin.«int.__rmul__» ⟨[.int a t,.ref l],[]⟩) (fun _ R s=>s.heap.get? l=some { cls:=.type "tuple",dict:=none,data:=.seq items n,slots:=#[] }/\R (.ok (.ret Value.notImplemented)) s):=
 .of_wp fun prog w A R s h=>by obtain ⟨hp,g,d,tk,os⟩:=s;obtain ⟨hl,h⟩:=h;wp_walk;exact ⟨_,rfl,h⟩
theorem tuple_mul_meets (l:Addr) (items:Array Value) (n:Nat) (x:Int) (u:Tok) (h1:2<=x) (h2:x<=1000) (h3:¬ items.isEmpty=true) (h4:items.size<=1000):
  Meets (Builtin.«tuple.__mul__» ⟨[.ref l,.int x u],[]⟩) (fun _ R s=>s.heap.get? l=some { cls:=.type "tuple",dict:=none,data:=.seq items n,slots:=#[] }/\R (.ok (.ret (Value.ref s.heap.objs.size))) { s with heap:=s.heap.push { cls:=Value.type "tuple",data:=Data.seq (List.foldl (fun x1 x2=>x1++x2) #[] (List.replicate x.toNat items)) },toks:=s.toks }):=
 .of_wp fun prog w A R s h=>by
  obtain ⟨hp,g,d,tk,os⟩:=s;obtain ⟨hl,h⟩:=h
  have hne:items.isEmpty=false:=by simpa using h3
  have hx1:(x==1)=false:=by rw [beq_eq_false_iff_ne];exact u24 h1
  have hz:(items.size:Int)*x<=1000000:=by
   have:=Int.mul_le_mul (a:=(items.size:Int)) (b:=x) (c:=1000) (d:=1000) (Int.ofNat_le.2 h4) h2 (Int.le_trans (by decide) h1) (by decide)
   exact u29 this
  have hsz:(List.foldl (fun x1 x2=>x1++x2) #[] (List.replicate x.toNat items)).size<=sizeLine:=by
   rw [PySem.AutoListH.size_joined,sizeLine_eq]
   have:x.toNat*items.size<=1000*1000:=Nat.mul_le_mul (by exact v34 h2) h4
   simp only [Array.size_empty];exact u30 this
  have hb:¬ ((items.size:Int)*x > (2 ^ 63-1) / 8):=by
   rw [show ((2 ^ 63-1) / 8:Int)=1152921504606846975 from by decide];exact u31 hz
  have ht:¬ Builtin.Tuple.tupleTooMany ((items.size:Int)*x)=true:=by
   simp only [Builtin.Tuple.tupleTooMany,sizeLine_eq,decide_eq_true_eq];exact u32 hz
  wp_walk
  refine wpAny_ite_false (decide_eq_false (by simp;exact u33 h1 h2)) ?_
  wp_walk
  refine wpAny_ite_false (decide_eq_false (by rw [hne,Bool.or_false];simp;exact u36 h1)) ?_
  wp_walk
  refine wpAny_ite_false (decide_eq_false hb) ?_
  wp_walk
  exact ⟨_,rfl,h⟩
theorem mul_tuple {prog:Program} {w:World} {A:Around} {E:Value->Shared->Prop} {s:Shared} {l:Addr} {items:Array Value} {k:Nat} {x:Int} {u:Tok} {Q:Value->Shared->Prop}
  (hl:s.heap.get? l=some { cls:=.type "tuple",dict:=none,data:=.seq items k,slots:=#[] }) (h1:2<=x) (h2:x<=1000) (h3:¬ items.isEmpty=true) (h4:items.size<=1000)
  (h:Q (.ref s.heap.objs.size) { s with heap:=s.heap.push { cls:=.type "tuple",data:=.seq (List.foldl (fun x1 x2=>x1++x2) #[] (List.replicate x.toNat items)) } }):
  wpAny (model prog w) A (binaryOp .Mult (.ref l) (.int x u)) Q E s:=
 wpAny_binaryOp_repeat_ref (T := "tuple") (U := "int") (by decide) ⟨_,hl,rfl⟩ (fun s'=>typeIs_int s' x u) noFill_tuple_mul PySem.F.fills_int_mul PySem.F.slot_int_rmul repeat_tuple PySem.F.slot_int_index.lookup
  (call_meets PySem.F.slot_int_rmul (typeIs_int s x u) PySem.F.entry_int_rmul (PySem.F.args_int_rmul_2 _ _) (rmul_declines x u l items k)
   ⟨hl,rfl,⟨_,hl,rfl⟩,call_meets PySem.F.slot_tuple_mul ⟨_,hl,rfl⟩ PySem.F.entry_tuple_mul (PySem.F.args_tuple_mul_2 _ _) (tuple_mul_meets l items k x u h1 h2 h3 h4) ⟨hl,h⟩⟩)
end
theorem foldl_toList (xs:Array Value):∀ (k:Nat) (acc:Array Value),(List.foldl (fun x1 x2=>x1++x2) acc (List.replicate k xs)).toList=acc.toList++(List.replicate k xs.toList).flatten
 | 0,acc=>(List.append_nil _).symm
 | k+1,acc=>by rw [List.replicate_succ,List.foldl_cons,foldl_toList xs k,Array.toList_append,List.replicate_succ,List.flatten_cons,List.append_assoc]
theorem Rds.rep {h:Heap} {P:Addr->Prop} {l:List PV} {vs:List Value} (r:Rds h P l vs):∀ k:Nat,Rds h P (List.replicate k l).flatten (List.replicate k vs).flatten
 | 0=>rfl
 | k+1=>by rw [List.replicate_succ,List.flatten_cons,List.replicate_succ,List.flatten_cons];exact r.append (r.rep k)
theorem rep_len {α:Type} (l:List α):∀ k:Nat,(List.replicate k l).flatten.length=k*l.length
 | 0=>(Nat.zero_mul _).symm
 | k+1=>by rw [List.replicate_succ,List.flatten_cons,List.length_append,rep_len l k,Nat.succ_mul,Nat.add_comm]
theorem lim_is:lim=sizeLine:=by decide
section
variable {c:Cx} {own:Addr->Option Nat} {ρ:Slots} {s s':Shared} {k:Cl} {d:PV} {v:Value} {h₀ h h':Heap} {A:Around} {E:Value->Shared->Prop}
theorem mulOk {a b:Int} (h:big a=false):IntMulOk a b:=by
 refine .of_left ?_
 unfold big at h
 have h1:a.natAbs < 4611686018427387904:=by simpa using h
 unfold Builtin.Int.intBits
 split
 ·exact o287
 ·rename_i hz
  have:a.natAbs.log2 < 62:=(Nat.log2_lt (by simpa using hz)).mpr (by simpa using h1)
  exact o288 this
noncomputable def Gives (c:Cx) (own:Addr->Option Nat) (A:Around) (t:Sem Value) (k:Cl) (d:PV) (s:Shared):Prop:=
 ∀ E,wpAny (model prog w) A t (fun v s'=>Keeps s s'/\RdC c own s.heap s'.heap k d v) E s
theorem keeps_tok (s:Shared) (t:Nat):Keeps s { s with toks:=t }:=⟨s.heap,t,rfl,fun _ _ e=>e⟩
theorem keeps_push (s:Shared) (o:Obj) (t:Nat):Keeps s (up s (s.heap.push o) (t)):=⟨_,t,rfl,fun _ _ e=>Heap.get?_push_of_some _ e⟩
theorem freshT {t:Sem Value} {l:List PV} (g:Gives c own A t .safe (.tuple l) s) {E:Value->Shared->Prop}:
  wpAny (model prog w) A t (fun v s'=>Keeps s s'/\RdC c own s.heap s'.heap .fresh (.tuple l) v) E s:=
 wpAny_mono (g E) (fun v s' q=>⟨q.1,freshC (fun _ e=>by cases e) (fun _ e=>by cases e) q.2⟩) fun _ _ q=>q
theorem binop_sound (x:St c own ρ s) {op:Operator} {o:BOp} {d₁ d₂:PV} {v₁ v₂:Value} (ho:bopOf op=some o) (r₁:Tp c own s.heap d₁ v₁) (r₂:Tp c own s.heap d₂ v₂)
  (e:binop o d₁ d₂=.ok d):Gives c own A (binaryOp op v₁ v₂) .fresh d s:=by
 intro E
 cases op with
 | Add=>
  cases ho
  cases d₁ with
  | int a=>
   cases d₂ with
   | int b=>obtain ⟨t,rfl⟩:=r₁;obtain ⟨u,rfl⟩:=r₂;cases e;exact PyProof.Rows.add_int ⟨keeps_tok _ _,_,rfl⟩
   | _=>cases e
  | list l₁=>
   cases d₂ with
   | list l₂=>
    obtain ⟨hl,e⟩:=if_ok (show (if (l₁++l₂).length<=lim then Res.ok (PV.list (l₁++l₂)) else .stuck)=.ok d from e)
    cases e
    obtain ⟨a,vs,rfl,_,⟨n,hs⟩,hn,hr⟩:=r₁;obtain ⟨b,us,rfl,_,⟨n2,hs2⟩,hn2,hr2⟩:=r₂
    refine P.add_list hs hs2 ⟨keeps_push _ _ _,newListC x hl ?_⟩ ?_
    ·rw [Array.toList_append];exact hr.append hr2
    ·have h1:=hr.length;have h2:=hr2.length
     simp only [Array.length_toList,List.length_append] at h1 h2 hl
     rw [<-lim_is];exact o289 h1 h2 hl
   | _=>cases e
  | _=>cases e
 | Sub=>
  cases ho
  obtain ⟨a,b,rfl,rfl,e⟩:=int2_ok e
  obtain ⟨t,rfl⟩:=r₁;obtain ⟨u,rfl⟩:=r₂;cases e;exact PyProof.Rows.sub_int ⟨keeps_tok _ _,_,rfl⟩
 | Mult=>
  cases ho
  cases d₁ with
  | int a=>
   cases d₂ with
   | int b=>
    obtain ⟨hb,e⟩:=if_ok' (show (if (big a||big b)=true then Res.stuck else .ok (.int (a*b)))=.ok d from e)
    obtain ⟨t,rfl⟩:=r₁;obtain ⟨u,rfl⟩:=r₂;cases e
    exact PyProof.Rows.mul_int ⟨keeps_tok _ _,_,rfl⟩ (mulOk (by simp only [Bool.or_eq_true,not_or,Bool.not_eq_true] at hb;exact hb.1))
   | _=>cases e
  | tuple l=>
   cases d₂ with
   | int b=>
    obtain ⟨hb,e⟩:=if_ok (show (if (decide (2<=b)&&decide (b<=1000)&&decide (0 < l.length)&&decide (l.length<=1000))=true then Res.ok (PV.tuple (List.replicate b.toNat l).flatten) else .stuck)=.ok d from e)
    obtain ⟨a,vs,rfl,⟨n,hs⟩,hn,hr⟩:=r₁;obtain ⟨u,rfl⟩:=r₂;cases e
    simp only [Bool.and_eq_true,decide_eq_true_eq] at hb
    have hz:vs.size=l.length:=by rw [<-Array.length_toList];exact hr.length
    refine freshT fun E=>mul_tuple hs hb.1.1.1 hb.1.1.2 (fun q=>?_) (by rw [hz];exact hb.2) ⟨keeps_push _ _ _,newTupleC ?_ ?_⟩
    ·have:vs.size=0:=by simpa using q
     exact (u34 hb.1.2 hz this).elim
    ·rw [rep_len]
     have:=Nat.mul_le_mul (show b.toNat<=1000 by exact v34 hb.1.1.2) hb.2
     unfold lim;exact u35 this
    ·rw [foldl_toList];exact hr.rep _
   | _=>cases e
  | _=>cases e
 | FloorDiv=>
  cases ho
  obtain ⟨a,b,rfl,rfl,e⟩:=int2_ok e
  obtain ⟨hb,e⟩:=if_ok' e
  obtain ⟨t,rfl⟩:=r₁;obtain ⟨u,rfl⟩:=r₂;cases e
  simp only [Bool.or_eq_true,not_or,decide_eq_true_eq] at hb
  exact PyProof.Rows.floordiv_int hb.1 ⟨keeps_tok _ _,_,rfl⟩ (.inl (PyProof.noPylong_small (by exact v35 hb.2)))
 | Mod=>
  cases ho
  obtain ⟨a,b,rfl,rfl,e⟩:=int2_ok e
  obtain ⟨hb,e⟩:=if_ok' e
  obtain ⟨t,rfl⟩:=r₁;obtain ⟨u,rfl⟩:=r₂;cases e;exact PyProof.Rows.mod_int hb ⟨keeps_tok _ _,_,rfl⟩
 | _=>cases ho
end
end Mine.Internal
end
section
set_option backward.eqns.nonrecursive false
namespace Mine.Internal
open PySem PySem.Spec PyProof.Rows
mutual
noncomputable def PV.pd:PV->PyData
 | .int i=>.int i
 | .tuple l=>.tuple (PV.pds l)
 | _=>.none
noncomputable def PV.pds:List PV->List PyData
 | []=>[]
 | x::xs=>PV.pd x::PV.pds xs
end
mutual
theorem eqv_pd:∀ a b:PV,a.flat=true->b.flat=true->PyData.eqv a.pd b.pd=PV.eq a b
 | .int _,b,_,h=>by
  cases b with
  | int _=>rfl
  | tuple _=>rfl
  | _=>cases h
 | .tuple l,b,g,h=>by
  cases b with
  | tuple m=>exact eqvs_pds l m g h
  | int _=>rfl
  | _=>cases h
theorem eqvs_pds:∀ a b:List PV,PV.flats a=true->PV.flats b=true->PyData.eqvAll (PV.pds a) (PV.pds b)=PV.eqs a b
 | [],[],_,_=>rfl
 | [],_::_,_,_=>rfl
 | _::_,[],_,_=>rfl
 | x::xs,y::ys,g,h=>by
  rw [flatsC,Bool.and_eq_true] at g h
  rw [eqsC,<-eqv_pd x y g.1 h.1,<-eqvs_pds xs ys g.2 h.2];rfl
end
section
variable {h:Heap} {P:Addr->Prop}
mutual
theorem Rd.reads:∀ (d:PV) {v:Value},d.flat=true->Rd h P d v->(∃ as,Reads h v d.pd as)/\d.pd.canLay0=true/\d.pd.depth=d.depth
 | .int i,_,_,⟨t,e⟩=>by subst e;exact ⟨⟨_,.int i t⟩,rfl,rfl⟩
 | .tuple l,_,f,⟨a,vs,e,⟨n,hs⟩,_,r⟩=>by
  subst e
  obtain ⟨⟨as,q⟩,q2,q3⟩:=Rds.reads l f r
  exact ⟨⟨_,.tuple hs rfl rfl q⟩,q2,congrArg (·+1) q3⟩
theorem Rds.reads:∀ (l:List PV) {vs:List Value},PV.flats l=true->Rds h P l vs->(∃ as,ReadsAll h vs (PV.pds l) as)/\PyData.canLayAll0 (PV.pds l)=true/\PyData.depthAll (PV.pds l)=PV.depths l
 | [],_,_,r=>by rw [show _=_ from r];exact ⟨⟨_,.nil⟩,rfl,rfl⟩
 | x::xs,_,f,⟨v,r,e,a,b⟩=>by
  subst e
  rw [flatsC,Bool.and_eq_true] at f
  obtain ⟨⟨as,q⟩,q2,q3⟩:=Rd.reads x f.1 a
  obtain ⟨⟨bs,p⟩,p2,p3⟩:=Rds.reads xs f.2 b
  exact ⟨⟨_,.cons q p⟩,by show (x.pd.canLay0&&PyData.canLayAll0 (PV.pds xs))=true;rw [q2,p2];rfl,by show max x.pd.depth (PyData.depthAll (PV.pds xs))=max x.depth (PV.depths xs);rw [q3,p3]⟩
end
end
section
variable {c:Cx} {own:Addr->Option Nat} {ρ:Slots} {s s':Shared} {A:Around} {E:Value->Shared->Prop}
theorem any_pds (l:List PV) (d:PV) (h:PV.flats l=true) (hd:d.flat=true):((PV.pds l).any fun y=>PyData.eqv y d.pd)=l.any fun y=>PV.eq y d:=by
 induction l with
 | nil=>rfl
 | cons x xs ih=>
  rw [flatsC,Bool.and_eq_true] at h
  rw [List.any_cons,<-ih h.2,<-eqv_pd x d h.1 hd];rfl
theorem isInt_int (i:Int) (t:Tok):(intKind prog w).is i (.int i t)=true:=by simp [intKind,Value.isInt]
theorem itemsAre_ints {P:Addr->Prop} {h:Heap}:∀ {l:List PV} {is:List Int} {vs:List Value},PV.ints? l=some is->Rds h P l vs->ItemsAre (intKind prog w) is vs
 | [],_,_,e,r=>by cases e;rw [show _=_ from r];exact .nil
 | .int i::l,_,_,e,⟨v,r,q,⟨t,a⟩,b⟩=>by
  subst q a
  simp only [PV.ints?,Option.map_eq_some_iff] at e
  obtain ⟨is',e,rfl⟩:=e
  exact .cons (isInt_int i t) (itemsAre_ints e b)
 | .none::_,_,_,e,_=>by cases e
 | .bool _::_,_,_,e,_=>by cases e
 | .tuple _::_,_,_,e,_=>by cases e
 | .list _::_,_,_,e,_=>by cases e
 | .dict _::_,_,_,e,_=>by cases e
end
end Mine.Internal
end
section
namespace Mine.Internal
open PySem PySem.Spec PyProof.Rows
section
variable {h:Heap}
theorem dictOf_nil {a:Addr} (x:h.DictOfH (tupleKind (intKind prog w)) a []):h.DictOf (intKind prog w) a []:=by
 obtain ⟨o,es,ep,ho,hx,hd,he,_,_⟩:=x
 have e:es.toList=[]:=by simpa using he
 exact ⟨o,es,ep,ho,hx,hd,fun y hy=>by rw [<-Array.mem_toList_iff,e] at hy;simp at hy,by rw [e];exact .nil,List.nodup_nil⟩
theorem dictOfH_nil {a:Addr} (x:h.DictOf (intKind prog w) a []):h.DictOfH (tupleKind (intKind prog w)) a []:=by
 obtain ⟨o,es,ep,ho,hx,hd,_,hp,_⟩:=x
 have e:es.toList=[]:=List.length_eq_zero_iff.mp hp.length
 exact ⟨o,es,ep,ho,hx,hd,by simpa using e,fun y hy=>(by simp at hy),List.nodup_nil⟩
theorem DictRep.int {a:Addr} {l:List (Key×PV)} {vs:List Value} {i:Int} (f:dfits l (.int i)=true) (x:DictRep h a (l.map (·.1)) vs):
  ∃ kvs:List (Int×Value),h.DictOf (intKind prog w) a kvs/\l.map (·.1)=kvs.map (fun p=>Key.int p.1)/\vs=kvs.map (·.2):=by
 rcases x with q | ⟨xs,q,e,e',_⟩
 ·exact q
 ·cases xs with
  | nil=>exact ⟨[],dictOf_nil q,e,e'⟩
  | cons p r=>
   cases l with
   | nil=>simp at e
   | cons p' r'=>simp only [List.map_cons,List.cons.injEq] at e;simp [dfits,e.1,Key.same] at f
theorem DictRep.tup {a:Addr} {l:List (Key×PV)} {vs:List Value} {i:List Int} (f:dfits l (.tup i)=true) (x:DictRep h a (l.map (·.1)) vs):
  ∃ xs:List (List Int×Addr×Value),h.DictOfH (tupleKind (intKind prog w)) a xs/\l.map (·.1)=xs.map (fun p=>Key.tup p.1)/\vs=xs.map (·.2.2)/\TKs h xs:=by
 rcases x with ⟨xs,q,e,e'⟩ | q
 ·cases xs with
  | nil=>exact ⟨[],dictOfH_nil q,e,e',fun _ hy=>by cases hy⟩
  | cons p r=>
   cases l with
   | nil=>simp at e
   | cons p' r'=>simp only [List.map_cons,List.cons.injEq] at e;simp [dfits,e.1,Key.same] at f
 ·exact q
theorem RdKV.rds {P:Addr->Prop}:∀ {l:List (Key×PV)} {vs:List Value},RdKV h P l vs->Rds h P (l.map (·.2)) vs
 | [],_,r=>r
 | (_,d)::ds,_,⟨v,r,e,a,b⟩=>⟨v,r,e,a,RdKV.rds b⟩
theorem RdKV.of {P:Addr->Prop}:∀ {l:List (Key×PV)} {vs:List Value},Rds h P (l.map (·.2)) vs->RdKV h P l vs
 | [],_,r=>r
 | (_,d)::ds,_,⟨v,r,e,a,b⟩=>⟨v,r,e,a,RdKV.of b⟩
theorem valueAt_dget {P:Addr->Prop} {i:Int}:∀ {l:List (Key×PV)} {kvs:List (Int×Value)},l.map (·.1)=kvs.map (fun p=>Key.int p.1)->RdKV h P l (kvs.map (·.2)) ->
  (dhas l (.int i)=(valueAt kvs i).isSome)/\∀ d,dget l (.int i)=some d->∃ v,valueAt kvs i=some v/\Rd h P d v
 | [],kvs,e,_=>by
  cases kvs with
  | nil=>exact ⟨rfl,fun d q=>by simp [dget] at q⟩
  | cons _ _=>simp at e
 | (k,d)::r,kvs,e,q=>by
  cases kvs with
  | nil=>simp at e
  | cons p ps=>
   obtain ⟨v,vs,e2,a,b⟩:=q
   simp only [List.map_cons,List.cons.injEq] at e e2
   obtain ⟨rfl,e⟩:=e
   obtain ⟨rfl,rfl⟩:=e2
   obtain ⟨h1,h2⟩:=valueAt_dget (i:=i) e b
   by_cases hk:p.1=i
   ·refine ⟨by simp [dhas,valueAt,hk],fun d' q=>?_⟩
    simp [dget,hk] at q
    subst q
    exact ⟨p.2,by simp [valueAt,hk],a⟩
   ·refine ⟨by simpa [dhas,valueAt,hk] using h1,fun d' q=>?_⟩
    obtain ⟨v',q1,q2⟩:=h2 d' (by simpa [dget,hk] using q)
    exact ⟨v',by simpa [valueAt,hk] using q1,q2⟩
theorem atKey_dget {P:Addr->Prop} {i:List Int}:∀ {l:List (Key×PV)} {xs:List (List Int×Addr×Value)},l.map (·.1)=xs.map (fun p=>Key.tup p.1)->RdKV h P l (xs.map (·.2.2)) ->
  (dhas l (.tup i)=(atKey xs i).isSome)/\∀ d,dget l (.tup i)=some d->∃ p,atKey xs i=some p/\Rd h P d p.2
 | [],kvs,e,_=>by
  cases kvs with
  | nil=>exact ⟨rfl,fun d q=>by simp [dget] at q⟩
  | cons _ _=>simp at e
 | (k,d)::r,kvs,e,q=>by
  cases kvs with
  | nil=>simp at e
  | cons p ps=>
   obtain ⟨v,vs,e2,a,b⟩:=q
   simp only [List.map_cons,List.cons.injEq] at e e2
   obtain ⟨rfl,e⟩:=e
   obtain ⟨rfl,rfl⟩:=e2
   obtain ⟨h1,h2⟩:=atKey_dget (i:=i) e b
   by_cases hk:p.1=i
   ·refine ⟨by simp [dhas,atKey,hk],fun d' q=>?_⟩
    simp [dget,hk] at q
    subst q
    exact ⟨p.2,by simp [atKey,hk],a⟩
   ·refine ⟨by simpa [dhas,atKey,hk] using h1,fun d' q=>?_⟩
    obtain ⟨v',q1,q2⟩:=h2 d' (by simpa [dget,hk] using q)
    exact ⟨v',by simpa [atKey,hk] using q1,q2⟩
end
section
variable {c:Cx} {own:Addr->Option Nat} {ρ:Slots} {s s':Shared} {A:Around} {E:Value->Shared->Prop} {d₁ d₂:PV} {v₁ v₂:Value}
theorem sysNe {a:Addr} (h:a≠1):(a==sysModules)=false:=by simpa [sysModules] using h
noncomputable def GivesB (A:Around) (t:Sem Value) (b:Bool) (s:Shared):Prop:=
 ∀ E,wpAny (model prog w) A t (fun v s'=>Keeps s s'/\v=.bool b) E s
theorem isin_sound (hu:A.units+200 < cLine) (r₁:Tp c own s.heap d₁ v₁) (r₂:Tp c own s.heap d₂ v₂) {b:Bool} (e:isin d₁ d₂=.ok b):
  GivesB A (compareOp .In v₁ v₂) b s/\GivesB A (compareOp .NotIn v₁ v₂) (!b) s:=by
 unfold isin at e
 split at e
 ·rename_i l
  split at e
  ·rename_i hf
   cases e
   simp only [Bool.and_eq_true,decide_eq_true_eq] at hf
   obtain ⟨a,vs,rfl,_,⟨n,hs⟩,_,rr⟩:=RdO.rd r₂
   obtain ⟨⟨as,qs⟩,q2,q3⟩:=Rds.reads l hf.1.1 rr
   have q:Reads s.heap (.ref a) (.list (PV.pds l)) _:=.list hs rfl rfl qs
   obtain ⟨⟨bs,p⟩,p2,p3⟩:=Rd.reads _ hf.1.2 (RdO.rd r₁)
   have hd:A.units+1+min (PyData.depthAll (PV.pds l)) d₁.pd.depth < cLine:=by have:=Nat.min_le_right (PyData.depthAll (PV.pds l)) d₁.pd.depth;exact o290 hu hf.2 p3
   exact ⟨fun E=>PySem.SeqAt.in_list_reads q p q2 p2 hd ⟨keeps_tok s s.toks,by rw [any_pds _ _ hf.1.1 hf.1.2]⟩,fun E=>PySem.SeqAt.notIn_list_reads q p q2 p2 hd ⟨keeps_tok s s.toks,by rw [any_pds _ _ hf.1.1 hf.1.2]⟩⟩
  ·cases e
 ·rename_i l
  split at e
  ·rename_i k hk
   split at e
   ·rename_i hf
    cases e
    obtain ⟨a,vs,rfl,_,n1,n,q,r⟩:=r₂
    cases d₁ with
    | int i=>
     cases hk
     obtain ⟨t,rfl⟩:=r₁
     obtain ⟨kvs,hd,e1,rfl⟩:=q.int hf
     obtain ⟨h1,_⟩:=valueAt_dget (i:=i) e1 r
     rw [h1]
     exact ⟨fun E=>wpAny_in_of (isInt_int i t) (sysNe n1) hd.mapOf ⟨keeps_tok _ _,rfl⟩,fun E=>wpAny_notIn_of (isInt_int i t) (sysNe n1) hd.mapOf ⟨keeps_tok _ _,rfl⟩⟩
    | tuple l'=>
     simp only [PV.key?,Option.map_eq_some_iff] at hk
     obtain ⟨is,hi,rfl⟩:=hk
     obtain ⟨b,us,rfl,⟨m,hs⟩,_,r1⟩:=r₁
     obtain ⟨xs,hd,e1,rfl,_⟩:=q.tup hf
     obtain ⟨h1,_⟩:=atKey_dget (i:=is) e1 r
     rw [h1]
     have hkey:(tupleKind (intKind prog w)).is s.heap is b:=⟨_,us,m,hs,rfl,rfl,itemsAre_ints hi r1⟩
     exact ⟨fun E=>wpAny_in_heap (tupleKind_room_in1 (by exact o291 hu)) hkey (sysNe n1) hd ⟨keeps_tok _ _,rfl⟩,fun E=>wpAny_notIn_heap (tupleKind_room_in1 (by exact o291 hu)) hkey (sysNe n1) hd ⟨keeps_tok _ _,rfl⟩⟩
    | _=>cases hk
   ·cases e
  ·cases e
 ·cases e
end
end Mine.Internal
end
section
namespace Mine.Internal
open PySem PySem.Spec PyProof.Rows
section
variable {c:Cx} {own:Addr->Option Nat} {ρ:Slots} {s s':Shared} {A:Around} {E:Value->Shared->Prop} {d₁ d₂:PV} {v₁ v₂:Value} {h:Heap} {P O:Addr->Prop}
theorem cmpop_sound (hu:A.units+200 < cLine) (op:CmpOp) (r₁:Tp c own s.heap d₁ v₁) (r₂:Tp c own s.heap d₂ v₂) {b:Bool} (e:cmpop (copOf op) d₁ d₂=.ok b):
  GivesB A (compareOp op v₁ v₂) b s:=by
 intro E
 cases op with
 | Eq=>
  obtain ⟨hf,e⟩:=if_ok e
  ·cases e
   simp only [Bool.and_eq_true,decide_eq_true_eq] at hf
   obtain ⟨⟨as,q⟩,q2,q3⟩:=Rd.reads _ hf.1.1 (RdO.rd r₁)
   obtain ⟨⟨bs,p⟩,p2,p3⟩:=Rd.reads _ hf.1.2 (RdO.rd r₂)
   exact PySem.SeqAt.compareEq_reads q p q2 p2 (by have:=Nat.min_le_left d₁.pd.depth d₂.pd.depth;exact o292 hu hf.2 q3) ⟨keeps_tok s s.toks,by rw [eqv_pd _ _ hf.1.1 hf.1.2]⟩
 | NotEq=>
  obtain ⟨hf,e⟩:=if_ok e
  ·cases e
   simp only [Bool.and_eq_true,decide_eq_true_eq] at hf
   obtain ⟨⟨as,q⟩,q2,q3⟩:=Rd.reads _ hf.1.1 (RdO.rd r₁)
   obtain ⟨⟨bs,p⟩,p2,p3⟩:=Rd.reads _ hf.1.2 (RdO.rd r₂)
   exact PySem.SeqAt.compareNe_reads q p q2 p2 (by have:=Nat.min_le_left d₁.pd.depth d₂.pd.depth;exact o292 hu hf.2 q3) ⟨keeps_tok s s.toks,by rw [eqv_pd _ _ hf.1.1 hf.1.2]⟩
 | Lt=>
  obtain ⟨a,b,rfl,rfl,e⟩:=int2_ok e
  obtain ⟨t,rfl⟩:=r₁;obtain ⟨u,rfl⟩:=r₂;cases e
  exact PyProof.Rows.lt_int ⟨keeps_tok s s.toks,rfl⟩
 | Gt=>
  obtain ⟨a,b,rfl,rfl,e⟩:=int2_ok e
  obtain ⟨t,rfl⟩:=r₁;obtain ⟨u,rfl⟩:=r₂;cases e
  exact PyProof.Rows.gt_int ⟨keeps_tok s s.toks,rfl⟩
 | In=>exact (isin_sound hu r₁ r₂ e).1 E
 | NotIn=>
  have e:(isin d₁ d₂).bind (fun r=>.ok (!r))=.ok b:=e
  cases q:isin d₁ d₂ with
  | ok b'=>rw [q] at e;cases e;exact (isin_sound hu r₁ r₂ q).2 E
  | stuck=>rw [q] at e;cases e
 | _=>cases e
end
end Mine.Internal
end
section
namespace Mine.Internal
open PySem PySem.Spec PyProof.Rows
section
variable {s:Shared} {A:Around} {E:Value->Shared->Prop}
noncomputable def clipN (n:Nat) (i:Int):Nat:=if i < 0 then (i+n).toNat else min i.toNat n
theorem big63 {z:Int} {n:Nat} (h:z<=n) (hn:n<=16777216):z < 2 ^ 63:=Int.lt_of_le_of_lt h (Int.lt_of_le_of_lt (Int.ofNat_le.2 hn) (by decide))
theorem big63' {n m:Nat} (h:n < m) (hm:m<=16777216):(n:Int) < 2 ^ 63-1:=Int.lt_of_le_of_lt (Int.ofNat_le.2 (Nat.le_trans (Nat.le_of_lt h) hm)) (by decide)
theorem neg63 {z:Int} (h:0<=z):-2 ^ 63<=z:=Int.le_trans (by decide) h
theorem big62 {z:Int} {n:Nat} (h:z<=n) (hn:n<=16777216):z < 2 ^ 62:=Int.lt_of_le_of_lt h (Int.lt_of_le_of_lt (Int.ofNat_le.2 hn) (by decide))
theorem neg62 {z:Int} (h:0<=z):-2 ^ 62<=z:=Int.le_trans (by decide) h
end
end Mine.Internal
end
section
set_option backward.eqns.nonrecursive false
namespace Mine.Internal
open PySem PySem.Spec PyProof.Rows
noncomputable def isSlice:Expr->Bool
 | .Slice ..=>true
 | _=>false
theorem subscripted_plain {e:Expr} (h:isSlice e=false) (o i:Value):subscripted e false o i=operate [o,i] (getItem o i):=by
 cases e<;>first | rfl | (cases h)
section
variable {c:Cx} {own:Addr->Option Nat} {ρ:Slots} {s s':Shared} {A:Around} {E:Value->Shared->Prop} {d d₁ d₂:PV} {v₁ v₂:Value}
theorem seqIndex_nat {i:Int} {n:Nat} (h0:0<=i) (h:i.toNat < n):seqIndex? i n=some i.toNat:=by
 unfold seqIndex?
 simp only [show ¬ i < 0 by exact o297 h0,if_false]
 rw [if_pos (by simp only [Bool.and_eq_true,decide_eq_true_eq];exact v11 h0 h)]
theorem getIdx_sound (hu:A.units+200 < cLine) {value slice:Expr} (hs:isSlice slice=false) (r₁:Tp c own s.heap d₁ v₁) (r₂:Tp c own s.heap d₂ v₂) (e:getIdx d₁ d₂=.ok d):
  Gives c own A (subscriptTail value slice v₁ v₂) .safe d s:=by
 intro E
 unfold getIdx at e
 split at e
 ·rename_i l i
  obtain ⟨a,vs,rfl,_,⟨n,hl⟩,hn,hr⟩:=r₁
  obtain ⟨t,rfl⟩:=r₂
  split at e
  ·rename_i h0
   split at e
   ·rename_i d' hd
    cases e
    obtain ⟨x,hx,hrx⟩:=hr.get hd
    have hlt:i.toNat < l.length:=(List.getElem?_eq_some_iff.mp hd).1
    refine tail_any (T := "list") ⟨_,hl,rfl⟩ slot_list_getitem.lookup (wpAny_getItem_list ⟨_,hl,rfl,n,rfl⟩ h0 ?_ (by rw [<-Array.getElem?_toList];exact hx) ⟨keeps_tok s s.toks,hrx⟩) (subscripted_plain hs _ _)
    exact big63 (Int.le_trans (Int.self_le_toNat _) (Int.ofNat_le.2 (Nat.le_of_lt hlt))) hn
   ·cases e
  ·cases e
 ·rename_i l i
  obtain ⟨a,vs,rfl,⟨n,hl⟩,hn,hr⟩:=r₁
  obtain ⟨t,rfl⟩:=r₂
  split at e
  ·rename_i h0
   split at e
   ·rename_i d' hd
    cases e
    obtain ⟨x,hx,hrx⟩:=hr.get hd
    have hlt:i.toNat < l.length:=(List.getElem?_eq_some_iff.mp hd).1
    have hlen:=hr.length
    refine tail_any (T := "tuple") ⟨_,hl,rfl⟩ slot_tuple_getitem.lookup (PyProof.Rows.getItem_tuple ⟨_,hl,rfl,n,rfl⟩ ?_ ?_ (seqIndex_nat h0 ?_) (by rw [<-Array.getElem?_toList];exact hx) ⟨keeps_tok s s.toks,hrx⟩) (subscripted_plain hs _ _)
    ·exact neg63 h0
    ·exact big63 (Int.le_trans (Int.self_le_toNat _) (Int.ofNat_le.2 (Nat.le_of_lt hlt))) hn
    ·rw [<-Array.length_toList];exact v14 hlt hlen
   ·cases e
  ·cases e
 ·rename_i l
  split at e
  ·rename_i k hk
   split at e
   ·rename_i hf
    split at e
    ·rename_i d' hd
     cases e
     obtain ⟨a,vs,rfl,_,n1,n,q,r⟩:=r₁
     cases d₂ with
     | int i=>
      cases hk
      obtain ⟨t,rfl⟩:=r₂
      obtain ⟨kvs,hm,e1,rfl⟩:=q.int hf
      obtain ⟨_,h2⟩:=valueAt_dget (i:=i) e1 r
      obtain ⟨v,hv,hrv⟩:=h2 _ hd
      exact tail_any (T := "dict") (hm.mapOf).typeIs slot_dict_getitem.lookup (wpAny_getItem_of (isInt_int i t) hm.mapOf hv ⟨keeps_tok _ _,hrv⟩) (subscripted_plain hs _ _)
     | tuple l'=>
      simp only [PV.key?,Option.map_eq_some_iff] at hk
      obtain ⟨is,hi,rfl⟩:=hk
      obtain ⟨b,us,rfl,⟨m,hb⟩,_,r1⟩:=r₂
      obtain ⟨xs,hm,e1,rfl,_⟩:=q.tup hf
      obtain ⟨_,h2⟩:=atKey_dget (i:=is) e1 r
      obtain ⟨p,hp,hrv⟩:=h2 _ hd
      have hkey:(tupleKind (intKind prog w)).is s.heap is b:=⟨_,us,m,hb,rfl,rfl,itemsAre_ints hi r1⟩
      exact tail_any (T := "dict") hm.typeIs slot_dict_getitem.lookup (wpAny_getItem_heap (tupleKind_room_in1 (by exact o291 hu)) hkey hm hp ⟨keeps_tok _ _,hrv⟩) (subscripted_plain hs _ _)
     | _=>cases hk
    ·cases e
   ·cases e
  ·cases e
 ·cases e
theorem toNat_max0 (a:Int):(max 0 a).toNat=a.toNat:=by
 rcases Int.le_total 0 a with h | h
 ·rw [Int.max_eq_right h]
 ·rw [Int.max_eq_left h,Int.toNat_of_nonpos h];rfl
theorem toNat_min (a:Int) (n:Nat) (h:0<=a):(min a n).toNat=min a.toNat n:=by
 obtain ⟨k,rfl⟩:=Int.eq_ofNat_of_zero_le h
 rcases Nat.le_total k n with q | q
 ·rw [Int.min_eq_left (Int.ofNat_le.2 q),Int.toNat_natCast,Nat.min_eq_left q]
 ·rw [Int.min_eq_right (Int.ofNat_le.2 q),Int.toNat_natCast,Int.toNat_natCast,Nat.min_eq_right q]
theorem clipAt_is (n:Nat) (i:Int):clipAt n i=clipN n i:=by
 unfold clipAt clipN
 rw [toNat_max0]
 by_cases h:i < 0
 ·rw [if_pos h,if_pos h,Int.min_eq_left (by exact o298 h)]
 ·rw [if_neg h,if_neg h,toNat_min i n (by exact o299 h)]
theorem cut_is (l:List PV) (a b:Nat):cut l a b=(l.drop a).take (b-a):=by
 unfold cut;rw [List.drop_take]
theorem subscripted_slice {l u:Option Expr} {p:Pos} (b:Bool) (o i:Value):subscripted (.Slice l u none p) b o i=operate [i,o] (getItem o i):=rfl
theorem slice_sound (x:St c own ρ s) {value:Expr} {l u:Option Expr} {p:Pos} {sl:Addr} {vl vu:Value} {lo hi:Option Int} (hsl:s.heap.IsSliceOf sl vl vu .none) (pl:IsPart vl lo) (pu:IsPart vu hi) (r₁:Tp c own s.heap d₁ v₁)
  (e:slice (lo.map .int) (hi.map .int) d₁=.ok d):Gives c own A (subscriptTail value (.Slice l u none p) v₁ (.ref sl)) .safe d s:=by
 intro E
 cases d₁ with
 | list ds=>
  obtain ⟨a,vs,rfl,ho,⟨n,hl⟩,hn,hr⟩:=r₁
  have hlen:vs.size=ds.length:=by rw [<-Array.length_toList];exact hr.length
  have hd:d=.list ((ds.drop (lo.elim 0 (clipN ds.length))).take (hi.elim ds.length (clipN ds.length)-lo.elim 0 (clipN ds.length))):=by
   cases lo<;>cases hi<;>first | (cases e;rw [cut_is];rfl) | cases e
  subst hd
  refine tail_any (T := "list") ⟨_,hl,rfl⟩ slot_list_getitem.lookup (wpAny_getItem_list_slice ⟨_,hl,rfl,n,rfl⟩ hsl pl pu .none (by simp) ?_ (by rw [hlen,<-lim_is];exact hn)) (subscripted_slice _ _ _)
  refine ⟨keeps_push _ _ _,RdC.rd x (k:=.fresh) rfl (newListC x ?_ ?_)⟩
  ·rw [List.length_take,List.length_drop];exact o294 hn
  ·rw [slicePick_plain]
   simp only [hlen]
   have e1:clipAt ds.length=clipN ds.length:=funext fun i=>clipAt_is _ _
   rw [e1]
   exact (hr.drop _).take _
 | _=>cases e
end
end Mine.Internal
end
section
set_option backward.eqns.nonrecursive false
namespace Mine.Internal
open PySem PySem.Spec PyProof.Rows
noncomputable def primVal:Prim->Value
 | .len=>.builtin "len"
 | .abs=>.builtin "abs"
 | .listOf | .listRange=>.type "list"
 | .tupleOf=>.type "tuple"
 | .intOf=>.type "int"
 | .all=>.builtin "all"
 | .max2=>.builtin "max"
 | _=>.none
noncomputable def primCl:Prim->Cl
 | .listOf | .listRange=>.fresh
 | _=>.safe
noncomputable def tyVal:Ty->String
 | .int => "int" | .bool => "bool" | .tuple => "tuple"
section
variable {c:Cx} {own:Addr->Option Nat} {ρ:Slots} {s s':Shared} {A:Around} {E:Value->Shared->Prop} {d d₁ d₂:PV} {v v₁ v₂:Value} {h:Heap} {P O:Addr->Prop}
noncomputable def Tps (c:Cx) (own:Addr->Option Nat) (h:Heap):List PV->List Value->Prop
 | [],vs=>vs=[]
 | d::ds,vs=>∃ v r,vs=v::r/\Tp c own h d v/\Tps c own h ds r
theorem keeps_of {s:Shared} {h':Heap} {tk:Nat} (k:∀ b o,s.heap.get? b=some o->h'.get? b=some o):Keeps s (up s (h') (tk)):=⟨h',tk,rfl,k⟩
theorem bools_at:∀ {l:List PV} {bs:List Bool} {vs:List Value},bools? l=some bs->Rds h P l vs->vs.length=bs.length/\∀ (i:Nat) (v:Value),vs[i]?=some v->∃ b,bs[i]?=some b/\v=Value.bool b
 | [],_,_,e,r=>by cases e;rw [show _=_ from r];exact ⟨rfl,fun i v q=>by simp at q⟩
 | .bool b::l,_,_,e,⟨v,r,q,a,b'⟩=>by
  subst q
  simp only [bools?,Option.map_eq_some_iff] at e
  obtain ⟨is',e,rfl⟩:=e
  obtain ⟨h1,h2⟩:=bools_at e b'
  refine ⟨by simp [h1],fun i u hu=>?_⟩
  cases i with
  | zero=>simp at hu;subst hu;exact ⟨b,rfl,a⟩
  | succ j=>simp only [List.getElem?_cons_succ] at hu ⊢;exact h2 j u hu
 | .none::_,_,_,e,_=>by cases e
 | .int _::_,_,_,e,_=>by cases e
 | .tuple _::_,_,_,e,_=>by cases e
 | .list _::_,_,_,e,_=>by cases e
 | .dict _::_,_,_,e,_=>by cases e
theorem all_range (bs:List Bool):(List.range bs.length).all (fun i=>bs.getD i false)=bs.all id:=by
 induction bs with
 | nil=>rfl
 | cons b r ih=>rw [List.length_cons,List.range_succ_eq_map,List.all_cons,List.all_map];simpa [Function.comp_def] using ih ▸ rfl
theorem rds_upto {h:Heap} {P:Addr->Prop}:∀ (n:Nat) (f:Nat->Int) (vs:List Value),vs.length=n->(∀ (j:Nat) (v:Value),vs[j]?=some v->∃ t,v=Value.int (f j) t)->Rds h P ((List.range n).map fun k=>PV.int (f k)) vs
 | 0,f,vs,e,_=>by have:=List.length_eq_zero_iff.mp e;subst this;rfl
 | n+1,f,[],e,_=>by simp at e
 | n+1,f,v::vs,e,q=>by
  rw [List.range_succ_eq_map,List.map_cons,List.map_map]
  obtain ⟨t,ht⟩:=q 0 v rfl
  refine ⟨v,vs,rfl,⟨t,ht⟩,?_⟩
  exact rds_upto n (fun k=>f (k+1)) vs (by simpa using e) fun j u hu=>q (j+1) u (by simpa using hu)
theorem lim63 {n:Nat} (h:n<=lim):(n:Int) < 2 ^ 63:=big63 (Int.le_refl _) h
theorem lenOf {h:Heap} {P:Addr->Prop} {l:List PV} {us:Array Value} (hr:Rds h P l us.toList):us.size=l.length:=by rw [<-Array.length_toList];exact hr.length
theorem prim_sound (x:St c own ρ s) (hu:A.units+200 < cLine) (hh:A.handled=none) {p:Prim} {ds:List PV} {vs:List Value} (hp:primVal p≠.none) (hp':p≠.listRange) (r:Tps c own s.heap ds vs) (e:prim p ds=.ok d):
  Gives c own A (call (primVal p) vs) (primCl p) d s:=by
 intro E
 cases p with
 | lenSet=>exact absurd rfl hp
 | sum=>exact absurd rfl hp
 | sorted=>exact absurd rfl hp
 | isi t=>exact absurd rfl hp
 | listRange=>exact absurd rfl hp'
 | max2=>
  obtain ⟨d₁,d₂,rfl,e⟩:=p2_ok e
  obtain ⟨a,b,rfl,rfl,e⟩:=int2_ok e
  obtain ⟨v,_,rfl,⟨t,rfl⟩,v',_,rfl,⟨u,rfl⟩,rfl⟩:=r
  cases e
  refine max_two_ints hh fun h' tk k=>⟨keeps_of k,?_⟩
  show ∃ _,_
  split<;>exact ⟨_,rfl⟩
 | len=>
  obtain ⟨d₁,rfl,e⟩:=p1_ok e
  cases d₁ with
  | list l=>obtain ⟨v,_,rfl,⟨a,us,rfl,_,⟨n,hl⟩,hn,hr⟩,rfl⟩:=r;cases e;exact Calls.call_len_list ⟨_,hl,rfl,n,rfl⟩ (by rw [lenOf hr];exact lim63 hn) ⟨keeps_tok _ _,_,by rw [lenOf hr]⟩
  | tuple l=>obtain ⟨v,_,rfl,⟨a,us,rfl,⟨n,hl⟩,hn,hr⟩,rfl⟩:=r;cases e;exact PyProof.Rows.len_tuple ⟨_,hl,rfl,n,rfl⟩ (by rw [lenOf hr];exact lim63 hn) ⟨keeps_tok _ _,_,by rw [lenOf hr]⟩
  | _=>cases e
 | abs=>
  obtain ⟨d₁,rfl,e⟩:=p1_ok e
  cases d₁ with
  | int i=>obtain ⟨v,_,rfl,⟨t,rfl⟩,rfl⟩:=r;cases e;exact call_abs_int fun u tk=>⟨keeps_tok _ _,_,rfl⟩
  | _=>cases e
 | listOf=>
  obtain ⟨d₁,rfl,e⟩:=p1_ok e
  cases d₁ with
  | tuple l=>
    obtain ⟨v,_,rfl,⟨a,us,rfl,⟨n,hl⟩,hn,hr⟩,rfl⟩:=r
    cases e
    refine call_list_seq a (.inr rfl) hl rfl rfl (fun h' c' k1 k2=>⟨keeps_of k1,s.heap.objs.size,us,rfl,newSize _,⟨c',k2⟩,hn,?_⟩) (by rw [lenOf hr,<-lim_is];exact hn)
    refine Rds.to (fun a o ho _=>k1 a o ho) l (Rds.imp (fun b o ho _ p=>⟨p,fun q=>?_⟩) l hr)
    injection q with q;rw [<-q,newSize] at ho;cases ho
  | _=>cases e
 | tupleOf=>
  obtain ⟨d₁,rfl,e⟩:=p1_ok e
  cases d₁ with
  | list l=>obtain ⟨v,_,rfl,⟨a,us,rfl,_,⟨n,hl⟩,hn,hr⟩,rfl⟩:=r;cases e;exact call_tuple_list ⟨_,hl,rfl,n,rfl⟩ (fun h' k=>⟨keeps_of fun b o ho=>Heap.get?_push_of_some _ (k b o ho),newTupleC hn (Rds.to (fun a o ho _=>k a o ho) l hr)⟩) (by rw [lenOf hr,<-lim_is];exact hn)
  | _=>cases e
 | intOf=>
  obtain ⟨d₁,rfl,e⟩:=p1_ok e
  cases d₁ with
  | bool b=>obtain ⟨v,_,rfl,rfl,rfl⟩:=r;cases e;exact call_int_bool ⟨keeps_tok _ _,_,rfl⟩
  | _=>cases e
 | all=>
  obtain ⟨d₁,rfl,e⟩:=p1_ok e
  cases d₁ with
  | list l=>
   have e:allB l=.ok d:=e
   cases hbs:bools? l with
   | none=>rw [allB,hbs] at e;cases e
   | some bs=>
    rw [allB,hbs] at e
    cases e
    obtain ⟨v,_,rfl,⟨a,us,rfl,_,⟨n,hl⟩,hn,hr⟩,rfl⟩:=r
    obtain ⟨h1,h2⟩:=bools_at hbs hr
    refine call_all_walk (wpAny_pyIter_list ⟨_,hl,rfl,n,rfl⟩ ?_)
    have hla:=Heap.lt_size hl
    refine ⟨s.heap.objs.size,_,_,_,_,_,fun i=>bs.getD i false,rfl,Walks.list (by exact hh) s.heap.objs.size a (Nat.ne_of_lt hla) us,⟨⟨_,Heap.get?_push_size _ rfl,rfl,rfl⟩,⟨_,Heap.get?_push_of_some _ hl,rfl,n,rfl⟩⟩,fun i v s Q E hv hq=>?_,fun h' tk k=>⟨?_,?_⟩⟩
    ·obtain ⟨b,hb,rfl⟩:=h2 i v (by rw [Array.getElem?_toList];exact hv)
     exact wpAny_truthy_bool (by simpa [List.getD,hb] using hq)
    ·exact ⟨h',tk,rfl,fun b o ho=>k b o (fun q=>by rw [List.mem_singleton.mp q,newSize] at ho;cases ho) (Heap.get?_push_of_some _ ho)⟩
    ·rw [<-Array.length_toList,h1,all_range];rfl
  | _=>cases e
end
end Mine.Internal
end
section
namespace Mine.Internal
open PySem PySem.Spec PyProof.Rows
section
variable {c:Cx} {own:Addr->Option Nat} {ρ:Slots} {s s':Shared} {A:Around} {E:Value->Shared->Prop} {d d₁ d₂:PV} {v v₁ v₂:Value} {h:Heap} {P O:Addr->Prop}
theorem isi_sound {t:Ty} (r:Tp c own s.heap d v) {x:PV} (e:isi1 t d=.ok x):∀ E,wpAny (model prog w) A (call (.builtin "isinstance") [v,.type (tyVal t)]) (fun u s'=>Keeps s s'/\∃ b,x=.bool b/\u=.bool b) E s:=by
 intro E
 cases d with
 | int i=>
  obtain ⟨u,rfl⟩:=r
  cases e
  cases t with
  | int=>exact IsiPair.int_int ⟨keeps_tok s s.toks,_,rfl,rfl⟩
  | bool=>exact IsiPair.int_bool ⟨keeps_tok _ _,_,rfl,rfl⟩
  | tuple=>exact IsiPair.int_tuple ⟨keeps_tok _ _,_,rfl,rfl⟩
 | tuple l=>
  obtain ⟨a,us,rfl,⟨n,hl⟩,hn,hr⟩:=r
  cases e
  cases t with
  | int=>exact IsiPair.tuple_int hl rfl ⟨keeps_tok _ _,_,rfl,rfl⟩
  | bool=>exact IsiPair.tuple_bool hl rfl ⟨keeps_tok _ _,_,rfl,rfl⟩
  | tuple=>exact IsiPair.tuple_tuple hl rfl ⟨keeps_tok s s.toks,_,rfl,rfl⟩
 | _=>cases e
theorem size_one (k:Nat):Builtin.Range.rangeSize 0 k 1=k:=by
 unfold Builtin.Range.rangeSize
 simp only [show (1:Int) > 0 by decide,if_true,Int.ediv_one]
 split<;>(first | exact o302 | exact o303 (by assumption))
theorem listRange_sound (x:St c own ρ s) (hh:A.handled=none) {n:Int} {t:Tok} (e:prim .listRange [.int n]=.ok d):
  ∀ E,wpAny (model prog w) A (call (.type "range") [.int n t]) (fun r s₁=>wpAny (model prog w) A (call (.type "list") [r]) (fun v s'=>Keeps s s'/\RdC c own s.heap s'.heap .fresh d v) E s₁) E s:=by
 intro E
 simp only [prim,items,l1,rangeI] at e
 split at e
 ·rename_i hc
  simp only [Bool.and_eq_true,decide_eq_true_eq] at hc
  obtain ⟨k,rfl⟩:=Int.eq_ofNat_of_zero_le hc.1
  unfold lim at hc
  have hk:k<=16777216:=by exact o304 hc.2
  have he:d=.list ((List.range k).map fun (j:Nat)=>PV.int (j:Int)):=by
   simp only [Res.bind,mkL,upto,Int.sub_zero,Int.toNat_natCast,List.length_map,List.length_range,Int.zero_add] at e
   rw [if_pos (show k<=lim from hk)] at e
   cases e;rfl
  subst he
  refine call_range_1 (call_list_range hh (Heap.get?_push_size _ rfl) (n:=k) (PySem.small_one (by decide) (by decide) (neg62 (Int.natCast_nonneg _)) (big62 (Int.le_refl _) hk)) (size_one k) hk fun h' tk acc' c' k1 k2 k3=>⟨?_,?_⟩)
  ·exact ⟨h',tk,rfl,fun b o ho=>k1 b o (Heap.get?_push_of_some _ ho)⟩
  ·refine ⟨_,acc',rfl,?_,⟨c',k2⟩,by rw [List.length_map,List.length_range];exact hk,?_⟩
   ·show s.heap.get? (s.heap.push _).objs.size=none
    rw [Heap.size_push]
    cases q:s.heap.get? (s.heap.objs.size+1) with
    | none=>rfl
    | some o=>exact absurd (Heap.lt_size q) (Nat.not_lt.mpr (Nat.le_succ _))
   ·refine rds_upto k (fun j=>(j:Int)) _ (by rw [Array.length_toList];exact k3.1) fun j v hv=>?_
    obtain ⟨t,ht⟩:=k3.2 j v (by rw [<-Array.getElem?_toList];exact hv)
    exact ⟨t,by rw [ht];simp⟩
 ·cases e
theorem size_two {a b:Int} (h:a<=b):Builtin.Range.rangeSize a b 1=b-a:=by
 unfold Builtin.Range.rangeSize
 simp only [show (1:Int) > 0 by decide,if_true,Int.ediv_one]
 split<;>(first | exact o317 | exact o318 h (by assumption))
end
end Mine.Internal
end
section
set_option backward.eqns.nonrecursive false
namespace Mine.Internal
open PySem PySem.Spec PyProof.Rows
noncomputable def biTable:List (Str×Value):=
 [("len",.builtin "len"),("abs",.builtin "abs"),("range",.type "range"),("enumerate",.type "enumerate"),("list",.type "list"),("tuple",.type "tuple"),("int",.type "int"),("all",.builtin "all"),("any",.builtin "any"),
  ("max",.builtin "max"),("min",.builtin "min"),("isinstance",.builtin "isinstance"),("bool",.type "bool"),("str",.type "str"),("sum",.builtin "sum"),("sorted",.builtin "sorted"),("set",.type "set")]
noncomputable def GEOk (fa:Nat->Addr):GE->Value->Prop
 | .fn i _ _,v=>v=.ref (fa i)
 | .const d,v=>∃ i t,d=.int i/\v=.int i t
structure Exc2 (B:Heap) (C D:Addr):Prop where
 own:∃ bm newId Bn initId mg,B.Ns mainGlobals mg/\mg ("NoDrawing" : Str)=some (.ref D)/\OwnClsQ "TooMany" C bm newId mg B/\ExcBaseFacts Bn newId initId bm
 isn:∃ K:PySem.W.Frag,K.In B/\isnOk K C D=true
structure Gnd (G:List (Str×GE)) (fa:Nat->Addr) (B:Heap):Prop where
 g:∃ mg,B.Ns mainGlobals mg/\(∀ x e,G.lookup x=some e->∃ v,mg x=some v/\GEOk fa e v)/\(∀ x v,(x,v)∈biTable->G.lookup x=none->mg x=none)
 b:∃ mb,B.Ns builtinsNs mb/\∀ x v,(x,v)∈biTable->mb x=some v
 nolimit:B.NoLimit
 fn:∀ x i ar fr,G.lookup x=some (.fn i ar fr)->∃ o fd,B.get? (fa i)=some o/\o.data=.func fd
 x:∃ C D,Exc2 B C D
inductive Fly (B:Heap) (A:Around) (s:Shared) (x:Value) (s':Shared):Prop where
 | mk (C D a:Addr) (h':Heap) (tk:Nat) (o:Exc2 B C D) (e:x=.ref a) (e':s'=(up s (h') (tk))) (g:GrowH (frs A) s.heap h') (hn:s.heap.get? a=none) (ht:h'.Traced s.heap a (.ref C))
structure Here (B:Heap) (D:Nat) (A:Around) (h:Heap):Prop where
 handled:A.handled=none
 depth:A.depth+D < recursionLimit
 units:A.units+20*D+300 < cLine
 frames:∃ l,A.frames=some l/\∀ e∈l,e.scope.kind≠.module/\∃ L,e.frame=some L
 fr:∀ a∈frs A,∃ m,h.Ns a m
 base:∀ b o,B.get? b=some o->b∉frs A/\h.get? b=some o
section
noncomputable def RetRd (h₀ h:Heap) (P:Addr->Prop) (fr:Bool) (d:PV) (v:Value):Prop:=
 if fr then RdO h (fun b=>(P b\/h₀.get? b=none)/\v≠.ref b) (fun a=>h₀.get? a=none) d v else Rd h (fun b=>P b\/h₀.get? b=none) d v
noncomputable def CFv (B:Heap) (fa:Nat->Addr) (G:List (Str×GE)) (cf:Nat->List PV->Res PV) (D:Nat):Prop:=
 ∀ (A:Around) (s:Shared) (f:Str) (i ar:Nat) (fr:Bool) (ds:List PV) (vs:List Value) (P:Addr->Prop),G.lookup f=some (.fn i ar fr)->ds.length=ar->Here B D A s.heap->(∀ a∈frs A,¬ P a)->Rds s.heap P ds vs->cf i ds≠.stuck ->
  codeAny (model prog w) A (.call (.ref (fa i)) ⟨vs,[]⟩) (fun r s'=>match r with
   | .ok (.ret v)=>∃ d,cf i ds=.ok d/\Grow A s s'/\RetRd s.heap s'.heap P fr d v
   | _=>False) s
noncomputable def CFx (B:Heap) (fa:Nat->Addr) (G:List (Str×GE)) (cf:Nat->List PV->Res PV) (D:Nat):Prop:=
 ∀ (A:Around) (s:Shared) (i ar:Nat) (fr:Bool) (ds:List PV) (vs:List Value) (P:Addr->Prop),G.lookup ("reckoned" : Str)=some (.fn i ar fr)->ds.length=ar->Here B D A s.heap->(∀ a∈frs A,¬ P a)->Rds s.heap P ds vs->cf (i+1000) ds≠.stuck ->
  codeAny (model prog w) A (.call (.ref (fa i)) ⟨vs,[]⟩) (fun r s'=>match r with
   | .error x=>Fly B A s x s'
   | _=>False) s
structure CF (B:Heap) (fa:Nat->Addr) (G:List (Str×GE)) (cf:Nat->List PV->Res PV) (D:Nat):Prop where
 v:CFv B fa G cf D
 x:CFx B fa G cf D
structure Fix where
 c:Cx
 t:TC
 B:Heap
 fa:Nat->Addr
 D:Nat
structure FixOk (f:Fix):Prop where
 ok:CxOk f.c
 scope:f.c.env.scope.names=f.t.scope
 names:f.c.names=f.t.slots
 mv:f.c.mv=f.t.mv
 gl:f.c.env.globals=mainGlobals
 bl:f.c.env.builtins=builtinsNs
 gnd:Gnd f.t.G f.fa f.B
 base:∀ b o,f.B.get? b=some o->b∉frs f.c.A/\f.c.h0.get? b=some o
 depth:f.c.A.depth+f.D < recursionLimit
 units:f.c.A.units+20*f.D+300 < cLine
 cb:∀ x i,(x,i)∈f.t.slots->i < f.t.cbase
 mvb:∀ i∈f.t.mv,i < f.t.cbase
inductive VP (f:Fix) (own:Addr->Option Nat) (s:Shared) (k:Cl) (r:Res PV) (v:Value) (s':Shared):Prop where
 | mk (d:PV) (e:r=.ok d) (g:Grow f.c.A s s') (x:RdC f.c own s.heap s'.heap k d v)
abbrev BP (f:Fix) (s:Shared) (r:Res PV) (b:Bool) (s':Shared):Prop:=r=.ok (.bool b)/\Grow f.c.A s s'
def EvOK (f:Fix) (cf:Nat->List PV->Res PV) (e:Expr) (p:PE) (k:Cl):Prop:=
 ∀ own ρ s,St f.c own ρ s->ev cf ρ p≠.stuck->wpAny (model prog w) f.c.A (eval e f.c.env) (VP f own s k (ev cf ρ p)) (fun _ _=>False) s
def TrOK (f:Fix) (cf:Nat->List PV->Res PV) (e:Expr) (p:PE):Prop:=
 ∀ own ρ s,St f.c own ρ s->ev cf ρ p≠.stuck->(∀ d,ev cf ρ p=.ok d->∃ b,d=.bool b)->wpAny (model prog w) f.c.A (isTrue e f.c.env (eval e f.c.env)) (BP f s (ev cf ρ p)) (fun _ _=>False) s
end
section
variable {f:Fix} {cf:Nat->List PV->Res PV} {own:Addr->Option Nat} {ρ:Slots} {s:Shared} {e:Expr} {p:PE} {k:Cl}
theorem St.baseB (F:FixOk f) (x:St f.c own ρ s):∀ b o,f.B.get? b=some o->s.heap.get? b=some o:=fun b o h=>(x.base b o (F.base b o h).2).1 (F.base b o h).1
theorem St.here (F:FixOk f) (x:St f.c own ρ s):Here f.B f.D f.c.A s.heap where
 handled:=F.ok.handled
 depth:=F.depth
 units:=F.units
 frames:=F.ok.frames
 fr:=fun a h=>(x.fr a h).2
 base:=fun b o h=>⟨(F.base b o h).1,x.baseB F b o h⟩
theorem EvOK.use (h:EvOK f cf e p k) (F:FixOk f) (x:St f.c own ρ s) {β:Type} {g:PV->Res β} (hns:(ev cf ρ p).bind g≠.stuck) {Q:Value->Shared->Prop} {E:Value->Shared->Prop}
  (hQ:∀ d v s',ev cf ρ p=.ok d->(ev cf ρ p).bind g=g d->g d≠.stuck->Grow f.c.A s s'->St f.c own ρ s'->RdC f.c own s.heap s'.heap k d v->Q v s'):wpAny (model prog w) f.c.A (eval e f.c.env) Q E s:=by
 have hn:ev cf ρ p≠.stuck:=fun q=>hns (by rw [q];rfl)
 refine wpAny_mono (h own ρ s x hn) (fun v s' q=>?_) fun _ _ q=>q.elim
 ·obtain ⟨d,e1,g1,r⟩:=q
  have e2:(ev cf ρ p).bind g=g d:=by rw [e1];rfl
  exact hQ d v s' e1 e2 (e2 ▸ hns) g1 (x.grow F.ok g1) r
theorem TrOK.use (h:TrOK f cf e p) (F:FixOk f) (x:St f.c own ρ s) {β:Type} {g:PV->Res β} (hns:(ev cf ρ p).bind g≠.stuck) (hb:∀ d,(∀ b,d≠.bool b)->g d=.stuck) {Q:Bool->Shared->Prop} {E:Value->Shared->Prop}
  (hQ:∀ b s',ev cf ρ p=.ok (.bool b)->(ev cf ρ p).bind g=g (.bool b)->g (.bool b)≠.stuck->Grow f.c.A s s'->St f.c own ρ s'->Q b s'):wpAny (model prog w) f.c.A (isTrue e f.c.env (eval e f.c.env)) Q E s:=by
 have hn:ev cf ρ p≠.stuck:=fun q=>hns (by rw [q];rfl)
 have hbool:∀ d,ev cf ρ p=.ok d->∃ b,d=.bool b:=fun d q=>by
  cases d with
  | bool b=>exact ⟨b,rfl⟩
  | _=>exact absurd (by rw [q];exact hb _ fun b z=>by cases z) hns
 refine wpAny_mono (h own ρ s x hn hbool) (fun b s' q=>?_) fun _ _ q=>q.elim
 ·have e2:(ev cf ρ p).bind g=g (.bool b):=by rw [q.1];rfl
  exact hQ b s' q.1 e2 (e2 ▸ hns) q.2 (x.grow F.ok q.2)
theorem TrOK.ofValue (h:EvOK f cf e p k) (ho:∀ env whole,isTrue e env whole=(do let v <-whole;standAt e.pos;holding [v] (truthy v))):TrOK f cf e p:=by
 intro own ρ s x hn hb
 rw [ho]
 refine wpAny_bind (wpAny_mono (h own ρ s x hn) (fun v s' q=>?_) fun _ _ q=>q.elim)
 obtain ⟨d,e1,g1,r⟩:=q
 obtain ⟨b,rfl⟩:=hb d e1
 have hv:v=.bool b:=by cases k<;>exact r
 subst hv
 exact wpAny_bind (wpAny_standAt (wpAny_holding (wpAny_truthy_bool ⟨e1,g1⟩)))
theorem loadBi (F:FixOk f) (x:St f.c own ρ s) {y:Str} {v:Value} {Q E:Value->Shared->Prop} (hg:f.t.glob y=true) (hn:f.t.G.lookup y=none) (hb:(y,v)∈biTable) (h:Q v s):
  wpAny (model prog w) f.c.A (loadName f.c.env y) Q E s:=by
 obtain ⟨mg,h1,_,h2⟩:=F.gnd.g
 obtain ⟨mb,h3,h4⟩:=F.gnd.b
 have hk:f.c.env.kindOf y=some .globalImplicit:=by
  show f.c.env.scope.names.lookup y=_
  rw [F.scope];exact eq_of_beq hg
 rw [loadName_read F.ok.kind hk]
 exact Calls.loadGlobal_builtin (by rw [F.gl];exact h1.keeps (x.baseB F)) (h2 y v hb hn) (by rw [F.bl];exact h3.keeps (x.baseB F)) (h4 y v hb) h
theorem loadGl (F:FixOk f) (x:St f.c own ρ s) {y:Str} {g:GE} {Q E:Value->Shared->Prop} (hg:f.t.glob y=true) (hl:f.t.G.lookup y=some g) (h:∀ v,GEOk f.fa g v->Q v s):
  wpAny (model prog w) f.c.A (loadName f.c.env y) Q E s:=by
 obtain ⟨mg,h1,h2,_⟩:=F.gnd.g
 obtain ⟨v,hv,hok⟩:=h2 y g hl
 have hk:f.c.env.kindOf y=some .globalImplicit:=by
  show f.c.env.scope.names.lookup y=_
  rw [F.scope];exact eq_of_beq hg
 rw [loadName_read F.ok.kind hk]
 exact Calls.loadGlobal_global (by rw [F.gl];exact h1.keeps (x.baseB F)) hv (h v hok)
end
end Mine.Internal
end
section
set_option backward.eqns.nonrecursive false
namespace Mine.Internal
open PySem PySem.Spec PyProof.Rows
section
noncomputable def RdCs (c:Cx) (own:Addr->Option Nat) (h₀ h:Heap):List Cl->List PV->List Value->Prop
 | [],ds,vs=>ds=[]/\vs=[]
 | k::ks,ds,vs=>∃ d ds' v vs',ds=d::ds'/\vs=v::vs'/\RdC c own h₀ h k d v/\RdCs c own h₀ h ks ds' vs'
inductive EachOK (f:Fix) (cf:Nat->List PV->Res PV):List Expr->List (PE×Cl)->Prop
 | nil:EachOK f cf [] []
 | cons {e:Expr} {p:PE} {k:Cl} {es:List Expr} {l:List (PE×Cl)}:EvOK f cf e p k->TrOK f cf e p->EachOK f cf es l->EachOK f cf (e::es) ((p,k)::l)
end
section
variable {f:Fix} {cf:Nat->List PV->Res PV} {own:Addr->Option Nat} {ρ:Slots} {s:Shared} {e:Expr} {p:PE} {k:Cl}
theorem starEach_plain {e:Expr} {es:List Expr} {env:Env} (h:starred e=false):starEach (e::es) env=(false,eval e env)::starEach es env:=by
 cases e<;>first | rfl | (cases h)
theorem RdCs.grow {c:Cx} (x:St c own ρ s) {s₁ s₂:Shared} (g₁:Grow c.A s s₁) (ok:CxOk c) (g:Grow c.A s₁ s₂):∀ {ks:List Cl} {ds:List PV} {vs:List Value},RdCs c own s.heap s₁.heap ks ds vs->RdCs c own s.heap s₂.heap ks ds vs
 | [],_,_,r=>r
 | k::ks,_,_,⟨d,ds',v,vs',e1,e2,a,b⟩=>⟨d,ds',v,vs',e1,e2,a.grow x g₁ ok g,RdCs.grow x g₁ ok g b⟩
theorem RdCs.back {c:Cx} {l:List Addr} {h₀ h:Heap} (g:GrowH l h₀ s.heap):∀ {ks:List Cl} {ds:List PV} {vs:List Value},RdCs c own s.heap h ks ds vs->RdCs c own h₀ h ks ds vs
 | [],_,_,r=>r
 | k::ks,_,_,⟨d,ds',v,vs',e1,e2,a,b⟩=>⟨d,ds',v,vs',e1,e2,a.back g,RdCs.back g b⟩
theorem RdCs.tps {c:Cx} {h:Heap} (x:St c own ρ s):∀ {ks:List Cl} {ds:List PV} {vs:List Value},ks.all Cl.top=true->RdCs c own s.heap h ks ds vs->Tps c own h ds vs
 | [],_,_,_,⟨e1,e2⟩=>by subst e1 e2;rfl
 | k::ks,_,_,ht,⟨d,ds',v,vs',e1,e2,a,b⟩=>by
  subst e1 e2
  simp only [List.all_cons,Bool.and_eq_true] at ht
  exact ⟨v,vs',rfl,a.tp x ht.1,RdCs.tps x ht.2 b⟩
theorem RdCs.rds {c:Cx} {h:Heap} (x:St c own ρ s):∀ {ks:List Cl} {ds:List PV} {vs:List Value},ks.all Cl.inner=true->RdCs c own s.heap h ks ds vs->Rds h (Fz c own) ds vs
 | [],_,_,_,⟨e1,e2⟩=>by subst e1 e2;rfl
 | k::ks,_,_,ht,⟨d,ds',v,vs',e1,e2,a,b⟩=>by
  subst e1 e2
  simp only [List.all_cons,Bool.and_eq_true] at ht
  exact ⟨v,vs',rfl,a.rd x ht.1,RdCs.rds x ht.2 b⟩
theorem RdCs.anys {c:Cx} {h:Heap} (x:St c own ρ s):∀ {ks:List Cl} {ds:List PV} {vs:List Value},RdCs c own s.heap h ks ds vs->Rds h (fun a=>(c.P0 a\/c.h0.get? a=none)/\own a≠some dum) ds vs
 | [],_,_,⟨e1,e2⟩=>by subst e1 e2;rfl
 | k::ks,_,_,⟨d,ds',v,vs',e1,e2,a,b⟩=>by subst e1 e2;exact ⟨v,vs',rfl,a.any x,RdCs.anys x b⟩
inductive SP (f:Fix) (own:Addr->Option Nat) (s:Shared) (ks:List Cl) (r:Res (List PV)) (vs:List Value) (s':Shared):Prop where
 | mk (ds:List PV) (e:r=.ok ds) (g:Grow f.c.A s s') (x:RdCs f.c own s.heap s'.heap ks ds vs)
theorem evs_sound (F:FixOk f) {pos:Pos} {es:List Expr} {l:List (PE×Cl)} (h:EachOK f cf es l):es.any starred=false->∀ {own:Addr->Option Nat} {ρ:Slots} {s:Shared},St f.c own ρ s->evs cf ρ (l.map (·.1))≠.stuck ->
  wpAny (model prog w) f.c.A (spliced (backTo pos (starEach es f.c.env))) (SP f own s (l.map (·.2)) (evs cf ρ (l.map (·.1)))) (fun _ _=>False) s:=by
 induction h with
 | nil=>exact fun _ {own ρ s} x _=>wpAny_items_nil ⟨[],rfl,Grow.refl s,rfl,rfl⟩
 | @cons e p k es l h1 _ h2 ih=>
  intro hs own ρ s x hn
  rw [List.any_cons,Bool.or_eq_false_iff] at hs
  refine wpAny_items_cons ?_ (starEach_plain hs.1)
  have eq:evs cf ρ (((p,k)::l).map (·.1))=(ev cf ρ p).bind fun x=>(evs cf ρ (l.map (·.1))).bind fun xs=>.ok (x::xs):=by rw [List.map_cons,evsC]
  rw [eq] at hn ⊢
  refine h1.use F x hn fun d v s₁ e1 e2 hn1 g1 x1 r=>?_
  rw [e2]
  exact wpAny_mono (ih hs.2 x1 fun q=>hn1 (by rw [q];rfl)) (fun vs s₂ q=>by cases q with | mk ds e g z=>exact ⟨d::ds,by rw [e];rfl,g1.trans g,d,ds,v,vs,rfl,rfl,r.grow x g1 F.ok g,z.back g1.h⟩) fun _ _ q=>q.elim
noncomputable def cOf:Const->Option PV
 | .none=>some .none
 | .bool b=>some (.bool b)
 | .int i=>some (.int i)
 | _=>none
theorem const_sound {c:Const} {kd:Nat} {pos:Pos} {d:PV} (h:cOf c=some d):EvOK f cf (.Constant c kd pos) (.const d) .safe:=by
 intro own ρ s x hn
 cases c with
 | none=>cases h;exact wpAny_Constant_none ⟨.none,rfl,Grow.refl s,rfl⟩
 | bool b=>cases h;exact wpAny_Constant_bool ⟨_,rfl,Grow.refl s,rfl⟩
 | int i=>cases h;exact wpAny_Constant_int ⟨_,rfl,Grow.tok _ _,_,rfl⟩
 | _=>cases h
theorem slot_mem {t:TC} {x:Str} {i:Nat} (h:t.slot x=some i):(x,i)∈t.slots:=by
 unfold TC.slot at h
 split at h
 ·exact mem_of_lookup h
 ·cases h
theorem name_var (F:FixOk f) {x:Str} {pos:Pos} {i:Nat} (hd:(x==("__debug__" : Str))=false) (hi:f.t.slot x=some i):EvOK f cf (.Name x pos) (.var i) (if i∈f.t.mv then .own else .safe):=by
 intro own ρ s st hn
 refine wpAny_Name ?_ hd
 have hm:(x,i)∈f.c.names:=by rw [F.names];exact slot_mem hi
 cases hd':ρ[i]? with
 | none=>exact absurd (by simp only [vE1,slot,hd']) hn
 | some od=>
  cases od with
  | none=>exact absurd (by simp only [vE1,slot,hd']) hn
  | some d=>
   refine st.load F.ok hm hd' fun v hv=>⟨d,by simp only [vE1,slot,hd'],Grow.refl s,?_⟩
   unfold VRd at hv
   rw [F.mv] at hv
   by_cases hi':i∈f.t.mv
   ·rw [if_pos hi'] at hv ⊢
    exact RdO.imp (fun a _ _ _ (q:own a=some i)=>⟨st.ownNew a i q (by rw [F.mv];exact hi'),fun z=>by rw [q] at z;cases z;exact F.ok.dumNot (by rw [F.mv];exact hi'),fun z=>by rw [q] at z;cases z⟩) (fun _ _ _ _ q=>q) hv
   ·rw [if_neg hi'] at hv ⊢
    exact hv
theorem name_const (F:FixOk f) {x:Str} {pos:Pos} {d:PV} (hd:(x==("__debug__" : Str))=false) (hg:f.t.glob x=true) (hl:f.t.G.lookup x=some (.const d)):EvOK f cf (.Name x pos) (.const d) .safe:=by
 intro own ρ s st hn
 refine wpAny_Name (loadGl F st hg hl fun v hv=>⟨d,rfl,Grow.refl s,?_⟩) hd
 obtain ⟨i,t,rfl,rfl⟩:=hv
 exact ⟨t,rfl⟩
theorem bin_sound (F:FixOk f) {l r:Expr} {op:Operator} {pos:Pos} {a b:PE×Cl} {o:BOp} (ha:EvOK f cf l a.1 a.2) (hb:EvOK f cf r b.1 b.2) (ho:bopOf op=some o) (ht:(a.2.top&&b.2.top)=true):
  EvOK f cf (.BinOp l op r pos) (.bin o a.1 b.1) .fresh:=by
 intro own ρ s x hn
 simp only [Bool.and_eq_true] at ht
 dsimp only [vE6] at hn ⊢
 refine wpAny_BinOp (ha.use F x hn fun d v s₁ e1 e2 hn1 g1 x1 r1=>?_)
 rw [e2]
 refine hb.use F x1 hn1 fun d' v' s₂ e3 e4 hn2 g2 x2 r2=>?_
 rw [e4]
 cases q:binop o d d' with
 | stuck=>exact absurd q hn2
 | ok d''=>
  refine wpAny_mono (binop_sound x2 ho ((r1.tp x ht.1).grow x1 g2) (r2.tp x1 ht.2) q _) (fun v s₃ z=>⟨d'',rfl,(g1.trans g2).trans (.of_keeps z.1),z.2.back (g1.trans g2).h⟩) fun _ _ z=>z
theorem neg_sound (F:FixOk f) {x:Expr} {pos:Pos} {a:PE×Cl} (ha:EvOK f cf x a.1 a.2):EvOK f cf (.UnaryOp .USub x pos) (.neg a.1) .safe:=by
 intro own ρ s st hn
 dsimp only [vE7] at hn ⊢
 refine wpAny_UnaryOp (ha.use F st hn fun d v s₁ e1 e2 hn1 g1 x1 r1=>?_)
 rw [e2]
 cases d with
 | int i=>
  have hv:∃ t,v=.int i t:=by cases a with | mk a1 a2=>cases a2<;>exact r1
  obtain ⟨t,rfl⟩:=hv
  exact PyProof.Rows.neg_int ⟨_,rfl,g1.trans (Grow.tok _ _),_,rfl⟩
 | _=>exact absurd rfl hn1
theorem not_sound (F:FixOk f) {x:Expr} {pos:Pos} {a:PE×Cl} (ha:EvOK f cf x a.1 a.2):EvOK f cf (.UnaryOp .Not x pos) (.not a.1) .safe:=by
 intro own ρ s st hn
 dsimp only [vE8] at hn ⊢
 refine wpAny_UnaryOp (ha.use F st hn fun d v s₁ e1 e2 hn1 g1 x1 r1=>?_)
 rw [e2]
 cases d with
 | bool i=>
  have hv:v=.bool i:=by cases a with | mk a1 a2=>cases a2<;>exact r1
  subst hv
  exact not_value (wpAny_truthy_bool ⟨_,rfl,g1,rfl⟩)
 | _=>exact absurd rfl hn1
theorem not_test (F:FixOk f) {x:Expr} {pos:Pos} {a:PE} (ha:TrOK f cf x a):TrOK f cf (.UnaryOp .Not x pos) (.not a):=by
 intro own ρ s st hn _
 dsimp only [vE8] at hn ⊢
 refine wpAny_isTrue_Not (ha.use F st hn (fun d hd=>?_) fun b s₁ e1 e2 hn1 g1 x1=>?_)
 ·cases d with
  | bool b=>exact absurd rfl (hd b)
  | _=>rfl
 ·rw [e2];exact ⟨rfl,g1⟩
theorem ite_sound (F:FixOk f) {c a b:Expr} {pos:Pos} {pc:PE} {pa pb:PE×Cl} (hc:TrOK f cf c pc) (ha:EvOK f cf a pa.1 pa.2) (hb:EvOK f cf b pb.1 pb.2) (hi:(pa.2.inner&&pb.2.inner)=true):
  EvOK f cf (.IfExp c a b pos) (.ite pc pa.1 pb.1) .safe:=by
 intro own ρ s st hn
 simp only [Bool.and_eq_true] at hi
 dsimp only [vE13] at hn ⊢
 refine wpAny_IfExp (hc.use F st hn (fun d hd=>?_) fun t s₁ e1 e2 hn1 g1 x1=>?_)
 ·cases d with
  | bool b=>exact absurd rfl (hd b)
  | _=>rfl
 ·rw [e2]
  cases t with
  | true=>
   simp only [if_true] at hn1 ⊢
   refine wpAny_mono (ha own ρ s₁ x1 hn1) (fun v s₂ q=>?_) fun _ _ q=>q.elim
   ·obtain ⟨d,e3,g2,r⟩:=q;exact ⟨d,e3,g1.trans g2,r.rd x1 hi.1⟩
  | false=>
   simp only [Bool.false_eq_true,if_false] at hn1 ⊢
   refine wpAny_mono (hb own ρ s₁ x1 hn1) (fun v s₂ q=>?_) fun _ _ q=>q.elim
   ·obtain ⟨d,e3,g2,r⟩:=q;exact ⟨d,e3,g1.trans g2,r.rd x1 hi.2⟩
end
end Mine.Internal
end
section
namespace Mine.Internal
open PySem PySem.Spec PyProof.Rows
section
variable {f:Fix} {cf:Nat->List PV->Res PV} {own:Addr->Option Nat} {ρ:Slots} {s:Shared} {e:Expr} {p:PE} {k:Cl}
theorem boolVal {c:Cx} {h₀ h:Heap} {b:Bool} {v:Value} (r:RdC c own h₀ h k (.bool b) v):v=.bool b:=by cases k<;>exact r
theorem boolOp_cons2 {M:Model} {A:Around} {Q:Value->Shared->Prop} {E:Value->Shared->Prop} {pos:Pos} {op:BoolOp} {x y:Sem Value} {r:List (Sem Value)}
  (h:wpAny M A x (fun v s₁=>wpAny M A (truthy v) (fun t s₂=>match op,t with | .And,false | .Or,true=>Q v s₂ | _,_=>wpAny M A (boolOp pos op (y::r)) Q E s₂) E s₁) E s):wpAny M A (boolOp pos op (x::y::r)) Q E s:=by
 show wpAny M A (x >>= fun v=>standAt pos >>= fun _=>holding [v] (truthy v) >>= fun t=>match op,t with | .And,false | .Or,true=>pure v | _,_=>boolOp pos op (y::r)) Q E s
 refine wpAny_bind (wpAny_mono h (fun v s₁ q=>wpAny_bind (wpAny_standAt (wpAny_bind (wpAny_holding (wpAny_mono q (fun t s₂ z=>?_) fun _ _ z=>z))))) fun _ _ z=>z)
 cases op<;>cases t<;>first | exact wpAny_pure z | exact z
inductive OP (f:Fix) (s:Shared) (r:Res Bool) (v:Value) (s':Shared):Prop where
 | mk (b:Bool) (e:r=.ok b) (ev:v=.bool b) (g:Grow f.c.A s s')
theorem OP.after {f:Fix} {s s₁ s':Shared} {r:Res Bool} {v:Value} (q:OP f s₁ r v s') (g:Grow f.c.A s s₁):OP f s r v s':=by
 cases q with
 | mk b e ev g'=>exact ⟨b,e,ev,g.trans g'⟩
theorem and_value (F:FixOk f) {pos:Pos} {es:List Expr} {l:List (PE×Cl)} (h:EachOK f cf es l):es≠[]->∀ {own:Addr->Option Nat} {ρ:Slots} {s:Shared},St f.c own ρ s->evAnd cf ρ (l.map (·.1))≠.stuck ->
  wpAny (model prog w) f.c.A (boolOp pos .And (evalEach es f.c.env)) (OP f s (evAnd cf ρ (l.map (·.1)))) (fun _ _=>False) s:=by
 induction h with
 | nil=>exact fun he=>absurd rfl he
 | @cons e p k es l h1 _ h2 ih=>
  intro _ own ρ s x hn
  have eq:evAnd cf ρ (((p,k)::l).map (·.1))=(ev cf ρ p).bind fun x=>match x with | .bool b=>if b then evAnd cf ρ (l.map (·.1)) else .ok false | _=>.stuck:=by rw [List.map_cons,evAndC];try rfl
  rw [eq] at hn ⊢
  cases h2 with
  | nil=>
   refine h1.use F x hn fun d v s₁ e1 e2 hn1 g1 x1 r=>?_
   rw [e2]
   cases d with
   | bool b=>cases b<;>exact ⟨_,rfl,boolVal r,g1⟩
   | _=>exact absurd rfl hn1
  | cons h3 h4 h5=>
   refine boolOp_cons2 (h1.use F x hn fun d v s₁ e1 e2 hn1 g1 x1 r=>?_)
   rw [e2]
   cases d with
   | bool b=>
    rw [boolVal r]
    refine wpAny_truthy_bool ?_
    cases b with
    | false=>exact ⟨_,rfl,rfl,g1⟩
    | true=>exact wpAny_mono (ih (List.cons_ne_nil _ _) x1 hn1) (fun v s₂ q=>q.after g1) fun _ _ q=>q.elim
   | _=>exact absurd rfl hn1
theorem or_value (F:FixOk f) {pos:Pos} {es:List Expr} {l:List (PE×Cl)} (h:EachOK f cf es l):es≠[]->∀ {own:Addr->Option Nat} {ρ:Slots} {s:Shared},St f.c own ρ s->evOr cf ρ (l.map (·.1))≠.stuck ->
  wpAny (model prog w) f.c.A (boolOp pos .Or (evalEach es f.c.env)) (OP f s (evOr cf ρ (l.map (·.1)))) (fun _ _=>False) s:=by
 induction h with
 | nil=>exact fun he=>absurd rfl he
 | @cons e p k es l h1 _ h2 ih=>
  intro _ own ρ s x hn
  have eq:evOr cf ρ (((p,k)::l).map (·.1))=(ev cf ρ p).bind fun x=>match x with | .bool b=>if b then .ok true else evOr cf ρ (l.map (·.1)) | _=>.stuck:=by rw [List.map_cons,evOrC];try rfl
  rw [eq] at hn ⊢
  cases h2 with
  | nil=>
   refine h1.use F x hn fun d v s₁ e1 e2 hn1 g1 x1 r=>?_
   rw [e2]
   cases d with
   | bool b=>cases b<;>exact ⟨_,rfl,boolVal r,g1⟩
   | _=>exact absurd rfl hn1
  | cons h3 h4 h5=>
   refine boolOp_cons2 (h1.use F x hn fun d v s₁ e1 e2 hn1 g1 x1 r=>?_)
   rw [e2]
   cases d with
   | bool b=>
    rw [boolVal r]
    refine wpAny_truthy_bool ?_
    cases b with
    | true=>exact ⟨_,rfl,rfl,g1⟩
    | false=>exact wpAny_mono (ih (List.cons_ne_nil _ _) x1 hn1) (fun v s₂ q=>q.after g1) fun _ _ q=>q.elim
   | _=>exact absurd rfl hn1
theorem notBool_stuck {β:Type} {g:Bool->Res β} (d:PV) (hd:∀ b,d≠.bool b):(match d with | .bool b=>g b | _=>Res.stuck)=.stuck:=by
 cases d with
 | bool b=>exact absurd rfl (hd b)
 | _=>rfl
abbrev TP (f:Fix) (s:Shared) (r:Res Bool) (b:Bool) (s':Shared):Prop:=r=.ok b/\Grow f.c.A s s'
theorem and_test (F:FixOk f) {es:List Expr} {l:List (PE×Cl)} (h:EachOK f cf es l):∀ {own:Addr->Option Nat} {ρ:Slots} {s:Shared},St f.c own ρ s->evAnd cf ρ (l.map (·.1))≠.stuck ->
  wpAny (model prog w) f.c.A (allTrue .And es f.c.env) (TP f s (evAnd cf ρ (l.map (·.1)))) (fun _ _=>False) s:=by
 induction h with
 | nil=>exact fun {own ρ s} x _=>wpAny_allTrue_And_nil ⟨rfl,Grow.refl s⟩
 | @cons e p k es l _ h1 h2 ih=>
  intro own ρ s x hn
  have eq:evAnd cf ρ (((p,k)::l).map (·.1))=(ev cf ρ p).bind fun x=>match x with | .bool b=>if b then evAnd cf ρ (l.map (·.1)) else .ok false | _=>.stuck:=by rw [List.map_cons,evAndC];try rfl
  rw [eq] at hn ⊢
  refine wpAny_allTrue_And_cons (h1.use F x hn (fun d hd=>notBool_stuck d hd) fun b s₁ e1 e2 hn1 g1 x1=>?_)
  rw [e2]
  cases b with
  | false=>exact ⟨rfl,g1⟩
  | true=>exact wpAny_mono (ih x1 hn1) (fun v s₂ q=>⟨q.1,g1.trans q.2⟩) fun _ _ q=>q.elim
theorem or_test (F:FixOk f) {es:List Expr} {l:List (PE×Cl)} (h:EachOK f cf es l):∀ {own:Addr->Option Nat} {ρ:Slots} {s:Shared},St f.c own ρ s->evOr cf ρ (l.map (·.1))≠.stuck ->
  wpAny (model prog w) f.c.A (allTrue .Or es f.c.env) (TP f s (evOr cf ρ (l.map (·.1)))) (fun _ _=>False) s:=by
 induction h with
 | nil=>exact fun {own ρ s} x _=>wpAny_allTrue_Or_nil ⟨rfl,Grow.refl s⟩
 | @cons e p k es l _ h1 h2 ih=>
  intro own ρ s x hn
  have eq:evOr cf ρ (((p,k)::l).map (·.1))=(ev cf ρ p).bind fun x=>match x with | .bool b=>if b then .ok true else evOr cf ρ (l.map (·.1)) | _=>.stuck:=by rw [List.map_cons,evOrC];try rfl
  rw [eq] at hn ⊢
  refine wpAny_allTrue_Or_cons (h1.use F x hn (fun d hd=>notBool_stuck d hd) fun b s₁ e1 e2 hn1 g1 x1=>?_)
  rw [e2]
  cases b with
  | true=>exact ⟨rfl,g1⟩
  | false=>exact wpAny_mono (ih x1 hn1) (fun v s₂ q=>⟨q.1,g1.trans q.2⟩) fun _ _ q=>q.elim
theorem bind_ok {α β:Type} {r:Res α} {g:α->β} (h:(r.bind fun x=>.ok (g x))≠.stuck):r≠.stuck:=fun q=>h (by rw [q];rfl)
theorem boolop_sound (F:FixOk f) {op:BoolOp} {es:List Expr} {l:List (PE×Cl)} {pos:Pos} (h:EachOK f cf es l) (he:es≠[]):
  EvOK f cf (.BoolOp op es pos) (if op=.And then .and (l.map (·.1)) else .or (l.map (·.1))) .safe/\TrOK f cf (.BoolOp op es pos) (if op=.And then .and (l.map (·.1)) else .or (l.map (·.1))):=by
 cases op with
 | And=>
  rw [if_pos rfl]
  refine ⟨fun own ρ s x hn=>?_,fun own ρ s x hn _=>?_⟩
  ·dsimp only [vE11,vE12] at hn ⊢
   show wpAny _ _ (boolOp pos .And (evalEach es f.c.env)) _ _ s
   refine wpAny_mono (and_value F h he x (bind_ok hn)) (fun v s' q=>?_) fun _ _ q=>q.elim
   ·obtain ⟨b,e1,rfl,g⟩:=q;exact ⟨.bool b,by rw [e1];rfl,g,rfl⟩
  ·dsimp only [vE11,vE12] at hn ⊢
   refine wpAny_isTrue_BoolOp (wpAny_mono (and_test F h x (bind_ok hn)) (fun b s' q=>⟨by rw [q.1];rfl,q.2⟩) fun _ _ q=>q.elim)
 | Or=>
  rw [if_neg (by decide)]
  refine ⟨fun own ρ s x hn=>?_,fun own ρ s x hn _=>?_⟩
  ·dsimp only [vE11,vE12] at hn ⊢
   show wpAny _ _ (boolOp pos .Or (evalEach es f.c.env)) _ _ s
   refine wpAny_mono (or_value F h he x (bind_ok hn)) (fun v s' q=>?_) fun _ _ q=>q.elim
   ·obtain ⟨b,e1,rfl,g⟩:=q;exact ⟨.bool b,by rw [e1];rfl,g,rfl⟩
  ·dsimp only [vE11,vE12] at hn ⊢
   refine wpAny_isTrue_BoolOp (wpAny_mono (or_test F h x (bind_ok hn)) (fun b s' q=>⟨by rw [q.1];rfl,q.2⟩) fun _ _ q=>q.elim)
theorem tup_sound (F:FixOk f) {es:List Expr} {l:List (PE×Cl)} {kd:Nat} {pos:Pos} (h:EachOK f cf es l) (hs:es.any starred=false):
  EvOK f cf (.Tuple es kd pos) (.tup (l.map (·.1))) (clsJoin (l.map (·.2))):=by
 intro own ρ s x hn
 dsimp only [vE3] at hn ⊢
 have hn1:evs cf ρ (l.map (·.1))≠.stuck:=fun q=>hn (by rw [q];rfl)
 refine wpAny_Tuple (wpAny_mono (evs_sound F h hs x hn1) (fun vs s₁ q=>?_) fun _ _ q=>q.elim)
 ·obtain ⟨ds,e1,g1,r⟩:=q
  rw [e1] at hn ⊢
  simp only [Res.bind,mkT] at hn ⊢
  split at hn
  ·rename_i hl
   rw [if_pos hl]
   have x1:=x.grow F.ok g1
   unfold clsJoin
   split
   ·rename_i hi
    have hr:=r.rds x hi
    refine ⟨by rw [hr.length,<-lim_is];exact hl,_,rfl,g1.trans (Grow.push _ _ _),newTupleC hl hr⟩
   ·have hr:=r.anys x
    refine ⟨by rw [hr.length,<-lim_is];exact hl,_,rfl,g1.trans (Grow.push _ _ _),newTupleC hl hr⟩
  ·exact absurd rfl hn
theorem tup_fresh {e:Expr} {l:List PE} (h:EvOK f cf e (.tup l) .safe):EvOK f cf e (.tup l) .fresh:=by
 intro own ρ s x hn
 refine wpAny_mono (h own ρ s x hn) (fun v s' q=>?_) fun _ _ q=>q.elim
 cases q with
 | mk d e1 g r=>
  refine ⟨d,e1,g,?_⟩
  have:∃ l',d=.tuple l':=by
   rw [vE3] at e1
   cases q:evs cf ρ l with
   | ok ds=>rw [q] at e1;obtain ⟨_,e1⟩:=if_ok (show (if ds.length<=lim then Res.ok (PV.tuple ds) else .stuck)=.ok d from e1);cases e1;exact ⟨ds,rfl⟩
   | stuck=>rw [q] at e1;cases e1
  obtain ⟨l',rfl⟩:=this
  exact freshC (fun _ z=>by cases z) (fun _ z=>by cases z) r
theorem lst_sound (F:FixOk f) {es:List Expr} {l:List (PE×Cl)} {pos:Pos} (h:EachOK f cf es l) (hs:es.any starred=false) (hc:clsJoin (l.map (·.2))=.safe):
  EvOK f cf (.List es pos) (.lst (l.map (·.1))) .fresh:=by
 intro own ρ s x hn
 dsimp only [vE4] at hn ⊢
 have hn1:evs cf ρ (l.map (·.1))≠.stuck:=fun q=>hn (by rw [q];rfl)
 have hi:(l.map (·.2)).all Cl.inner=true:=by unfold clsJoin at hc;split at hc<;>first | assumption | cases hc
 refine wpAny_List (wpAny_mono (evs_sound F h hs x hn1) (fun vs s₁ q=>?_) fun _ _ q=>q.elim)
 ·obtain ⟨ds,e1,g1,r⟩:=q
  rw [e1] at hn ⊢
  simp only [Res.bind,mkL] at hn ⊢
  split at hn
  ·rename_i hl
   rw [if_pos hl]
   have x1:=x.grow F.ok g1
   have hr:=r.rds x hi
   exact ⟨by rw [hr.length,<-lim_is];exact hl,_,rfl,g1.trans (Grow.push _ _ _),(newListC x1 hl hr).back g1.h⟩
  ·exact absurd rfl hn
theorem newDictC {c:Cx} (x:St c own ρ s) (h1:s.heap.objs.size≠1):RdC c own s.heap (s.heap.push { cls:=.type "dict",data:=.dict #[] }) .fresh (.dict []) (.ref s.heap.objs.size):=
 ⟨_,[],rfl,newSize _,h1,Nat.zero_le _,.inl ⟨[],⟨_,#[],0,Heap.get?_push_size _ rfl,⟨rfl,rfl,rfl⟩,rfl,fun _ he=>by simp at he,.nil,List.nodup_nil⟩,rfl,rfl⟩,rfl⟩
theorem St.big (F:FixOk f) (x:St f.c own ρ s):3 < s.heap.objs.size:=by
 obtain ⟨mg,⟨o,_,_,ho,_⟩,_⟩:=F.gnd.g
 exact Heap.lt_size (x.baseB F _ _ ho)
theorem dct0_sound (F:FixOk f) {pos:Pos}:EvOK f cf (.Dict [] [] pos) .dct0 .fresh:=by
 intro own ρ s x hn
 have:=x.big F
 exact wpAny_Dict_empty ⟨_,rfl,Grow.push _ _ _,newDictC x (by exact o310 this)⟩
theorem ok_bind {α β:Type} (a:α) (g:α->Res β):(Res.ok a).bind g=g a:=rfl
theorem cmp_parts (F:FixOk f) {op:CmpOp} {d₁ d₂:PV} {v₁ v₂:Value} (x:St f.c own ρ s) (r₁:Tp f.c own s.heap d₁ v₁) (r₂:Tp f.c own s.heap d₂ v₂) (hn:(cmpop (copOf op) d₁ d₂)≠.stuck) {E:Value->Shared->Prop}:
  wpAny (model prog w) f.c.A (compareOp op v₁ v₂) (fun v s'=>∃ b,cmpop (copOf op) d₁ d₂=.ok b/\v=.bool b/\Grow f.c.A s s') E s:=by
 have hu:f.c.A.units+200 < cLine:=by have:=F.units;exact o311 this
 cases q:cmpop (copOf op) d₁ d₂ with
 | stuck=>exact absurd q hn
 | ok b=>exact wpAny_mono (cmpop_sound hu op r₁ r₂ q E) (fun v s' z=>⟨b,rfl,z.2,.of_keeps z.1⟩) fun _ _ z=>z
theorem cmp_sound (F:FixOk f) {l r:Expr} {op:CmpOp} {pos:Pos} {a b:PE×Cl} (ha:EvOK f cf l a.1 a.2) (hb:EvOK f cf r b.1 b.2) (ht:(a.2.top&&b.2.top&&!behindInMarks op r)=true):
  EvOK f cf (.Compare l [op] [r] pos) (.cmp (copOf op) a.1 b.1) .safe/\TrOK f cf (.Compare l [op] [r] pos) (.cmp (copOf op) a.1 b.1):=by
 simp only [Bool.and_eq_true,Bool.not_eq_true'] at ht
 refine ⟨fun own ρ s x hn=>?_,fun own ρ s x hn _=>?_⟩
 ·dsimp only [vE9] at hn ⊢
  refine wpAny_Compare1 (ha.use F x hn fun d v s₁ e1 e2 hn1 g1 x1 r1=>?_) ht.2
  rw [e2]
  refine hb.use F x1 hn1 fun d' v' s₂ e3 e4 hn2 g2 x2 r2=>?_
  rw [e4]
  refine wpAny_mono (cmp_parts F x2 ((r1.tp x ht.1.1).grow x1 g2) (r2.tp x1 ht.1.2) (bind_ok hn2) (E:=fun _ _=>False)) (fun v s₃ q=>?_) fun _ _ z=>z.elim
  obtain ⟨bb,e5,rfl,g3⟩:=q
  exact ⟨.bool bb,by rw [e5];rfl,(g1.trans g2).trans g3,rfl⟩
 ·dsimp only [vE9] at hn ⊢
  refine wpAny_isTrue_Compare1 (ha.use F x hn fun d v s₁ e1 e2 hn1 g1 x1 r1=>?_) ht.2
  rw [e2]
  refine hb.use F x1 hn1 fun d' v' s₂ e3 e4 hn2 g2 x2 r2=>?_
  rw [e4]
  refine wpAny_mono (cmp_parts F x2 ((r1.tp x ht.1.1).grow x1 g2) (r2.tp x1 ht.1.2) (bind_ok hn2) (E:=fun _ _=>False)) (fun v s₃ q=>?_) fun _ _ z=>z.elim
  obtain ⟨bb,e5,rfl,g3⟩:=q
  exact wpAny_truthy_bool ⟨by rw [e5];rfl,(g1.trans g2).trans g3⟩
end
end Mine.Internal
end
section
set_option backward.eqns.nonrecursive false
namespace Mine.Internal
open PySem PySem.Spec PyProof.Rows
section
variable {f:Fix} {cf:Nat->List PV->Res PV} {own:Addr->Option Nat} {ρ:Slots} {s:Shared} {e:Expr} {p:PE} {k:Cl}
theorem idx_sound (F:FixOk f) {v i:Expr} {pos:Pos} {a b:PE×Cl} (hi:isSlice i=false) (ha:EvOK f cf v a.1 a.2) (hb:EvOK f cf i b.1 b.2) (hta:a.2.top=true) (htb:b.2.top=true):
  EvOK f cf (.Subscript v i pos) (.idx a.1 b.1) .safe:=by
 intro own ρ s x hn
 dsimp only [vE14] at hn ⊢
 refine Subscript_ (ha.use F x hn fun d v s₁ e1 e2 hn1 g1 x1 r1=>?_)
 rw [e2]
 refine hb.use F x1 hn1 fun d' v' s₂ e3 e4 hn2 g2 x2 r2=>?_
 rw [e4]
 cases q:getIdx d d' with
 | stuck=>exact absurd q hn2
 | ok d''=>
  have hu:f.c.A.units+200 < cLine:=by have:=F.units;exact o311 this
  exact wpAny_mono (getIdx_sound hu hi ((r1.tp x hta).grow x1 g2) (r2.tp x1 htb) q (fun _ _=>False)) (fun v s₃ z=>⟨d'',rfl,(g1.trans g2).trans (.of_keeps z.1),z.2⟩) fun _ _ z=>z.elim
theorem part_int {c:Cx} {h₀ h:Heap} {i:Int} {v:Value} (r:RdC c own h₀ h k (.int i) v):∃ t,v=.int i t:=by cases k<;>exact r
theorem slice_done (F:FixOk f) {v:Expr} {lo hi:Option Expr} {sp:Pos} {a:PE×Cl} {s₀ s₁ s₃:Shared} (x:St f.c own ρ s₀) (hta:a.2.top=true) {d:PV} {ov vl vu:Value} {l u:Option Int} (g1:Grow f.c.A s₀ s₁) (r1:RdC f.c own s₀.heap s₁.heap a.2 d ov) (g3:Grow f.c.A s₁ s₃)
  (pl:IsPart vl l) (pu:IsPart vu u) (R:Res PV) (hR:R=slice (l.map .int) (u.map .int) d) (hn:R≠.stuck):
  wpAny (model prog w) f.c.A (subscriptTail v (.Slice lo hi none sp) ov (.ref s₃.heap.objs.size)) (VP f own s₀ .safe R) (fun _ _=>False)
   { s₃ with heap:=s₃.heap.push { cls:=.type "slice",data:=.fields #[vl,vu,.none] } }:=by
 have gp:Grow f.c.A s₃ { s₃ with heap:=s₃.heap.push { cls:=.type "slice",data:=.fields #[vl,vu,.none] } }:=Grow.push _ _ _
 have x3:=(x.grow F.ok g1).grow F.ok (g3.trans gp)
 cases q:slice (l.map .int) (u.map .int) d with
 | stuck=>exact absurd (hR.trans q) hn
 | ok d'=>
  have hr:=((r1.tp x hta).grow (x.grow F.ok g1) (g3.trans gp))
  exact wpAny_mono (slice_sound x3 (Heap.IsSliceOf.new ..) pl pu hr q (fun _ _=>False)) (fun v s₄ z=>⟨d',hR.trans q,((g1.trans g3).trans gp).trans (.of_keeps z.1),z.2⟩) fun _ _ z=>z.elim
theorem slL_sound (F:FixOk f) {v lo:Expr} {pos sp:Pos} {a b:PE×Cl} (ha:EvOK f cf v a.1 a.2) (hb:EvOK f cf lo b.1 b.2) (hta:a.2.top=true):EvOK f cf (.Subscript v (.Slice (some lo) none none sp) pos) (.slL a.1 b.1) .safe:=by
 intro own ρ s x hn
 dsimp only [vE16] at hn ⊢
 refine Subscript_ (ha.use F x hn fun d v s₁ e1 e2 hn1 g1 x1 r1=>?_)
 rw [e2]
 refine wpAny_Slice (hb.use F x1 hn1 fun d' v' s₂ e3 e4 hn2 g2 x2 r2=>wpAny_pure (wpAny_pure ?_))
 rw [e4]
 cases d' with
 | int i=>obtain ⟨t,rfl⟩:=part_int r2;exact slice_done F x hta g1 r1 g2 (.int i t) .none _ rfl hn2
 | _=>cases d<;>exact absurd rfl hn2
theorem slH_sound (F:FixOk f) {v hi:Expr} {pos sp:Pos} {a b:PE×Cl} (ha:EvOK f cf v a.1 a.2) (hb:EvOK f cf hi b.1 b.2) (hta:a.2.top=true):EvOK f cf (.Subscript v (.Slice none (some hi) none sp) pos) (.slH a.1 b.1) .safe:=by
 intro own ρ s x hn
 dsimp only [vE17] at hn ⊢
 refine Subscript_ (ha.use F x hn fun d v s₁ e1 e2 hn1 g1 x1 r1=>?_)
 rw [e2]
 refine wpAny_Slice (wpAny_pure (hb.use F x1 hn1 fun d' v' s₂ e3 e4 hn2 g2 x2 r2=>(wpAny_pure ?_)))
 rw [e4]
 cases d' with
 | int i=>obtain ⟨t,rfl⟩:=part_int r2;exact slice_done F x hta g1 r1 g2 .none (.int i t) _ rfl hn2
 | _=>cases d<;>exact absurd rfl hn2
theorem backTo_plain {es:List Expr} {pos:Pos} {env:Env} (h:es.any starred=false):(backTo pos (starEach es env)).any (·.1)=false:=by
 induction es with
 | nil=>rfl
 | cons e r ih=>
  simp only [List.any_cons,Bool.or_eq_false_iff] at h
  rw [starEach_plain h.1]
  simp only [backTo,List.map_cons,List.any_cons,Bool.false_or]
  exact ih h.2
theorem evalArgs_list {fv:Value} {es:List Expr} {pos:Pos} {env:Env} {M:Model} {A:Around} {Q:Args->Shared->Prop} {E:Value->Shared->Prop} (hs:es.any starred=false) (hne:es≠[])
  (h:wpAny M A (spliced (backTo pos (starEach es env))) (fun vs s'=>Q ⟨vs,[]⟩ s') E s):wpAny M A (evalArgs fv true (backTo pos (starEach es env)) []) Q E s:=by
 cases es with
 | nil=>exact absurd rfl hne
 | cons e r=>
  simp only [List.any_cons,Bool.or_eq_false_iff] at hs
  rw [starEach_plain hs.1] at h ⊢
  exact Calls.evalArgs_plain h
theorem call_bi (F:FixOk f) {g:Str} {gp pos:Pos} {es:List Expr} {l:List (PE×Cl)} {fv:Value} (hb:(g,fv)∈biTable) (hg:f.t.bi g g=true) (hd:(g==("__debug__" : Str))=false) (hfv:(∃ id,fv=.builtin id)\/∃ T,fv=.type T)
  (h:EachOK f cf es l) (hs:es.any starred=false) (hne:es≠[]) (x:St f.c own ρ s) (hn:evs cf ρ (l.map (·.1))≠.stuck) {Q:Value->Shared->Prop} {E:Value->Shared->Prop}
  (hQ:∀ ds vs s₁,evs cf ρ (l.map (·.1))=.ok ds->Grow f.c.A s s₁->St f.c own ρ s₁->RdCs f.c own s.heap s₁.heap (l.map (·.2)) ds vs->wpAny (model prog w) f.c.A (call fv vs) Q E s₁):
  wpAny (model prog w) f.c.A (eval (.Call (.Name g gp) es [] pos) f.c.env) Q E s:=by
 simp only [TC.bi,Bool.and_eq_true,Option.isNone_iff_eq_none,beq_self_eq_true,and_true] at hg
 refine wpAny_Call_NameR (wpAny_Name (loadBi F x hg.1 hg.2 hb ?_) hd)
 have key:wpAny (model prog w) f.c.A (spliced (backTo pos (starEach es f.c.env))) (fun vs s₁=>wpAny (model prog w) f.c.A (call fv vs) Q E s₁) E s:=by
  refine wpAny_mono (evs_sound F h hs x hn) (fun vs s₁ q=>?_) fun _ _ q=>q.elim
  ·obtain ⟨ds,e1,g1,r⟩:=q;exact hQ ds vs s₁ e1 g1 (x.grow F.ok g1) r
 rcases hfv with ⟨id,rfl⟩ | ⟨T,rfl⟩
 ·exact Calls.callWith_builtin (backTo_plain hs) (evalArgs_list hs hne key)
 ·exact PySem.callWith_type (backTo_plain hs) (evalArgs_list hs hne key)
end
end Mine.Internal
end
section
set_option backward.eqns.nonrecursive false
namespace Mine.Internal
open PySem PySem.Spec PyProof.Rows
section
variable {f:Fix} {cf:Nat->List PV->Res PV} {own:Addr->Option Nat} {ρ:Slots} {s:Shared} {e:Expr} {p:PE} {k:Cl}
theorem bi_eq {t:TC} {x y:Str} (h:t.bi x y=true):x=y/\t.bi x x=true:=by
 simp only [TC.bi,Bool.and_eq_true] at h ⊢
 exact ⟨eq_of_beq h.2,h.1,by simp⟩
noncomputable def isBT:Value->Bool
 | .builtin _ | .type _=>true
 | _=>false
noncomputable def isLR:Prim->Bool
 | .listRange=>true
 | _=>false
theorem primTab_ok:∀ q∈primTab,(q.1,primVal q.2)∈biTable/\isLR q.2=false/\isBT (primVal q.2)=true:=by decide +kernel
theorem isBT_ok {v:Value} (h:isBT v=true):v≠.none/\((∃ id,v=.builtin id)\/∃ T,v=.type T):=by
 cases v with
 | builtin id=>exact ⟨fun z=>(by cases z),.inl ⟨_,rfl⟩⟩
 | type T=>exact ⟨fun z=>(by cases z),.inr ⟨_,rfl⟩⟩
 | _=>cases h
theorem primcall_sound (F:FixOk f) {g:Str} {gp pos:Pos} {es:List Expr} {l:List (PE×Cl)} {p:Prim} (hp:primOf f.t g=some p) (hd:(g==("__debug__" : Str))=false)
  (h:EachOK f cf es l) (hs:es.any starred=false) (hne:es≠[]) (ht:(l.map (·.2)).all Cl.top=true):EvOK f cf (.Call (.Name g gp) es [] pos) (.prim p (l.map (·.1))) (primCl p):=by
 intro own ρ s x hn
 have h1:f.t.bi g g=true:=by
  unfold primOf at hp
  cases q:f.t.bi g g with
  | true=>rfl
  | false=>rw [q] at hp;cases hp
 have h3:=primTab_ok (g,p) (mem_of_lookup (by unfold primOf at hp;rw [if_pos h1] at hp;exact hp))
 have h4:=isBT_ok h3.2.2
 have hn1:evs cf ρ (l.map (·.1))≠.stuck:=fun q=>hn (by rw [vE20,q];rfl)
 refine call_bi F h3.1 h1 hd h4.2 h hs hne x hn1 fun ds vs s₁ e1 g1 x1 r=>?_
 have e2:ev cf ρ (.prim p (l.map (·.1)))=prim p ds:=by rw [vE20,e1];rfl
 rw [e2] at hn ⊢
 cases q:prim p ds with
 | stuck=>exact absurd q hn
 | ok d=>exact wpAny_mono (prim_sound x1 (by have:=F.units;exact o311 this) F.ok.handled h4.1 (fun z=>by have:=h3.2.1;rw [z] at this;cases this) (r.tps x ht) q (fun _ _=>False)) (fun v s₂ z=>⟨d,rfl,g1.trans (.of_keeps z.1),z.2.back g1.h⟩) fun _ _ z=>z.elim
theorem ev_prim1 {p:Prim} {a:PE}:ev cf ρ (.prim p [a])=(ev cf ρ a).bind fun d=>prim p [d]:=by rw [vE20,evsC,evsN];cases ev cf ρ a<;>rfl
theorem tyTab_ok:∀ q∈tyTab,(q.1,Value.type (tyVal q.2))∈biTable/\(q.1==("__debug__" : Str))=false:=by decide +kernel
theorem listRange_call (F:FixOk f) {g h:Str} {gp pos hp pos':Pos} {e:Expr} {a:PE×Cl} (hg:f.t.bi g "list" = true) (hdg:(g==("__debug__" : Str))=false) (hh:f.t.bi h "range" = true) (hdh:(h==("__debug__" : Str))=false) (hse:starred e=false)
  (ha:EvOK f cf e a.1 a.2):EvOK f cf (.Call (.Name g gp) [.Call (.Name h hp) [e] [] pos'] [] pos) (.prim .listRange [a.1]) .fresh:=by
 intro own ρ s x hn
 obtain ⟨rfl,hg⟩:=bi_eq hg
 obtain ⟨rfl,hh⟩:=bi_eq hh
 simp only [TC.bi,Bool.and_eq_true,Option.isNone_iff_eq_none] at hg hh
 rw [ev_prim1] at hn ⊢
 refine wpAny_Call_NameR (wpAny_Name (loadBi F x hg.1.1 hg.1.2 (v:=.type "list") (by decide +kernel) ?_) hdg)
 refine PySem.callWith_type (by rfl) (evalArgs_list (by rfl) (by simp) ?_)
 refine wpAny_items_cons ?_ (starEach_plain (by rfl))
 refine wpAny_Call_NameR (wpAny_Name (loadBi F x hh.1.1 hh.1.2 (v:=.type "range") (by decide +kernel) ?_) hdh)
 refine PySem.callWith_type (backTo_plain (by simp [hse])) (evalArgs_list (by simp [hse]) (by simp) ?_)
 refine wpAny_items_cons ?_ (starEach_plain hse)
 refine ha.use F x hn fun d v s₁ e1 e2 hn1 g1 x1 r1=>wpAny_items_nil ?_
 rw [e2]
 show wpAny _ _ (call (.type "range") ([]++[v])) _ _ s₁
 cases d with
 | int i=>
  obtain ⟨t,rfl⟩:=part_int r1
  cases q:prim .listRange [.int i] with
  | stuck=>exact absurd q hn1
  | ok d=>
   refine wpAny_mono (listRange_sound x1 F.ok.handled q (t:=t) (fun _ _=>False)) (fun r s₂ z=>?_) fun _ _ z=>z.elim
   refine wpAny_items_nil (wpAny_mono z (fun v s₃ z=>⟨d,rfl,g1.trans (.of_keeps z.1),z.2.back g1.h⟩) fun _ _ z=>z.elim)
 | _=>exact absurd rfl hn1
theorem isi_call_sound (F:FixOk f) {g:Str} {gp pos:Pos} {x y:Expr} {a:PE×Cl} {ty:Ty} (hg:f.t.bi g "isinstance" = true) (hdg:(g==("__debug__" : Str))=false) (hsx:starred x=false) (hy:tyOf f.t y=some ty)
  (ha:EvOK f cf x a.1 a.2) (hta:a.2.top=true):EvOK f cf (.Call (.Name g gp) [x,y] [] pos) (.prim (.isi ty) [a.1]) .safe:=by
 intro own ρ s st hn
 obtain ⟨rfl,hg⟩:=bi_eq hg
 simp only [TC.bi,Bool.and_eq_true,Option.isNone_iff_eq_none] at hg
 have hyy:∃ T yp,y=.Name T yp/\f.t.bi T T=true/\(T,ty)∈tyTab:=by
  cases y with
  | Name T yp=>
   cases hb:f.t.bi T T with
   | true=>exact ⟨T,yp,rfl,hb,mem_of_lookup (show tyTab.lookup T=some ty by simpa [tyOf,hb] using hy)⟩
   | false=>simp [tyOf,hb] at hy
  | _=>cases hy
 obtain ⟨T,yp,rfl,hT,htab⟩:=hyy
 have hk:=tyTab_ok _ htab
 simp only [TC.bi,Bool.and_eq_true,Option.isNone_iff_eq_none] at hT
 rw [ev_prim1] at hn ⊢
 refine wpAny_Call_NameR (wpAny_Name (loadBi F st hg.1.1 hg.1.2 (v:=.builtin "isinstance") (by decide +kernel) ?_) hdg)
 refine Calls.callWith_builtin (backTo_plain (by simp only [List.any_cons,hsx,List.any_nil,Bool.false_or,Bool.or_false];rfl)) (evalArgs_list (by simp only [List.any_cons,hsx,List.any_nil,Bool.false_or,Bool.or_false];rfl) (by simp) ?_)
 refine wpAny_items_cons ?_ (starEach_plain hsx)
 refine ha.use F st hn fun d v s₁ e1 e2 hn1 g1 x1 r1=>?_
 rw [e2]
 refine wpAny_items_cons (wpAny_Name (loadBi F x1 hT.1.1 hT.1.2 hk.1 (wpAny_items_nil ?_)) hk.2) (starEach_plain (by rfl))
 cases q:isi1 ty d with
 | stuck=>exact absurd q hn1
 | ok x=>
  refine wpAny_mono (isi_sound (r1.tp st hta) q (fun _ _=>False)) (fun v s₂ z=>?_) fun _ _ z=>z.elim
  obtain ⟨z1,b,rfl,rfl⟩:=z
  exact ⟨_,q,g1.trans (.of_keeps z1),rfl⟩
theorem usercall_sound (F:FixOk f) (C:CF f.B f.fa f.t.G cf f.D) {g:Str} {gp pos:Pos} {es:List Expr} {l:List (PE×Cl)} {i ar:Nat} {fr clean:Bool} (hg:f.t.glob g=true) (hl:f.t.G.lookup g=some (.fn i ar fr)) (hd:(g==("__debug__" : Str))=false)
  (h:EachOK f cf es l) (hs:es.any starred=false) (hne:es≠[]) (hlen:l.length=ar) (hk:if clean then fr=true else (l.map (·.2)).all Cl.inner=true):
  EvOK f cf (.Call (.Name g gp) es [] pos) (.call i clean (l.map (·.1))) (if fr then .fresh else .safe):=by
 intro own ρ s x hn
 dsimp only [vE19] at hn ⊢
 have hn1:evs cf ρ (l.map (·.1))≠.stuck:=fun q=>hn (by rw [q];rfl)
 refine wpAny_Call_NameR (wpAny_Name (loadGl F x hg hl fun v hv=>?_) hd)
 rw [show v=.ref (f.fa i) from hv]
 obtain ⟨o,fd,ho,hfd⟩:=F.gnd.fn g i ar fr hl
 refine Calls.callWith_function (o:=o) (fd:=fd) (evalArgs_list hs hne ?_)
 refine wpAny_mono (evs_sound F h hs x hn1) (fun vs s₁ q=>?_) fun _ _ q=>q.elim
 ·obtain ⟨ds,e1,g1,r⟩:=q
  have x1:=x.grow F.ok g1
  refine ⟨⟨x1.baseB F _ _ ho,hfd⟩,?_⟩
  rw [e1] at hn ⊢
  simp only [ok_bind] at hn ⊢
  have hn2:cf i ds≠.stuck:=fun q=>hn (by rw [q];rfl)
  have hdl:ds.length=ar:=by
   have:∀ {ks:List Cl} {ds:List PV} {vs:List Value},RdCs f.c own s.heap s₁.heap ks ds vs->ds.length=ks.length:=by
    intro ks
    induction ks with
    | nil=>intro ds vs r;rw [r.1];rfl
    | cons k ks ih=>intro ds vs r;obtain ⟨d,ds',v,vs',e1,e2,a,b⟩:=r;subst e1;simp [ih b]
   rw [this r,List.length_map,hlen]
  cases clean with
  | false=>
   simp only [Bool.false_eq_true,if_false] at hk
   have hr:=r.rds x hk
   refine wpAny_call (codeAny_mono (C.v f.c.A s₁ g i ar fr ds vs (Fz f.c own) hl hdl (x1.here F) (fun a ha hf=>fz_dum hf (x1.fr a ha).1) hr hn2) fun res s₂ z=>?_)
   cases res with
   | error x'=>exact z.elim
   | ok fl=>
    cases fl with
    | ret v=>
     obtain ⟨d,e2,g2,rr⟩:=z
     refine ⟨d,by rw [e2];rfl,g1.trans g2,?_⟩
     unfold RetRd at rr
     cases fr with
     | false=>exact Rd.imp (fun a _ _ _ q=>q.elim id fun q=>x1.newFz q) d rr
     | true=>exact RdC.back g1.h (RdO.imp (fun a _ _ _ q=>q) (fun a _ _ _ q=>⟨q.1.elim id fun q=>x1.newFz q,q.2⟩) rr:RdC f.c own s₁.heap s₂.heap .fresh d v)
    | _=>exact z.elim
  | true=>
   simp only [if_true] at hk
   subst hk
   have hr:=r.anys x
   refine wpAny_call (codeAny_mono (C.v f.c.A s₁ g i ar true ds vs (fun a=>own a≠some dum) hl hdl (x1.here F) (fun a ha hf=>hf (x1.fr a ha).1) (Rds.imp (fun a _ _ _ q=>q.2) ds hr) hn2) fun res s₂ z=>?_)
   cases res with
   | error x'=>exact z.elim
   | ok fl=>
    cases fl with
    | ret v=>
     obtain ⟨d,e2,g2,rr⟩:=z
     rw [e2] at hn
     simp only [ok_bind,Bool.not_true,Bool.false_or] at hn
     split at hn
     ·rename_i hc
      refine ⟨d,by rw [e2];simp [ok_bind,hc],g1.trans g2,?_⟩
      unfold RetRd at rr
      rw [if_pos rfl] at rr
      refine RdC.back g1.h (?_:RdC f.c own s₁.heap s₂.heap .fresh d v)
      cases d with
      | list l'=>obtain ⟨a,us,e3,ho',q1,q2,q3⟩:=rr;exact ⟨a,us,e3,ho',q1,q2,Rds.ofImm l' (by simpa [PV.clean] using hc) q3⟩
      | dict l'=>obtain ⟨a,us,e3,ho',q0,q1,q2,q3⟩:=rr;exact ⟨a,us,e3,ho',q0,q1,q2,RdKV.ofImm l' (by simpa [PV.clean] using hc) q3⟩
      | tuple l'=>exact Rd.ofImm (.tuple l') (by simpa [PV.clean] using hc) rr
      | none=>exact rr
      | bool _=>exact rr
      | int _=>exact rr
     ·exact absurd rfl hn
    | _=>exact z.elim
end
end Mine.Internal
end
section
namespace Mine.Internal
open PySem PySem.Spec PyProof.Rows
section
variable {f:Fix} {cf:Nat->List PV->Res PV} {own:Addr->Option Nat} {ρ:Slots} {s:Shared} {e:Expr} {p:PE} {k:Cl}
theorem ints_at {P:Addr->Prop} {h:Heap}:∀ {l:List PV} {is:List Int} {vs:List Value},PV.ints? l=some is->Rds h P l vs->vs.length=is.length/\∀ (i:Nat) (v:Value),vs[i]?=some v->∃ n t,is[i]?=some n/\v=Value.int n t
 | [],_,_,e,r=>by cases e;rw [show _=_ from r];exact ⟨rfl,fun i v q=>by simp at q⟩
 | .int n::l,_,_,e,⟨v,r,q,⟨t,a⟩,b'⟩=>by
  subst q
  simp only [PV.ints?,Option.map_eq_some_iff] at e
  obtain ⟨is',e,rfl⟩:=e
  obtain ⟨h1,h2⟩:=ints_at e b'
  refine ⟨by simp [h1],fun i u hu=>?_⟩
  cases i with
  | zero=>simp at hu;subst hu;exact ⟨n,t,rfl,a⟩
  | succ j=>simp only [List.getElem?_cons_succ] at hu ⊢;exact h2 j u hu
 | .none::_,_,_,e,_=>by cases e
 | .bool _::_,_,_,e,_=>by cases e
 | .tuple _::_,_,_,e,_=>by cases e
 | .list _::_,_,_,e,_=>by cases e
 | .dict _::_,_,_,e,_=>by cases e
theorem intsAre_at {P:Addr->Prop} {h:Heap}:∀ {l:List PV} {is:List Int} {vs:List Value},PV.ints? l=some is->Rds h P l vs->IntsAre vs is
 | [],_,_,e,r=>by cases e;rw [show _=_ from r];exact .nil
 | .int n::l,_,_,e,⟨v,r,q,⟨t,a⟩,b'⟩=>by
  subst q;subst a
  simp only [PV.ints?,Option.map_eq_some_iff] at e
  obtain ⟨is',e,rfl⟩:=e
  exact .cons n t (intsAre_at e b')
 | .none::_,_,_,e,_=>by cases e
 | .bool _::_,_,_,e,_=>by cases e
 | .tuple _::_,_,_,e,_=>by cases e
 | .list _::_,_,_,e,_=>by cases e
 | .dict _::_,_,_,e,_=>by cases e
theorem sum1_ok {d d':PV} (h:sum1 d=.ok d'):∃ l is,d=.tuple l/\PV.ints? l=some is/\d'=.int (sumI is):=by
 cases d with
 | tuple l=>
  have h:(match PV.ints? l with | some is=>Res.ok (PV.int (sumI is)) | Option.none=>.stuck)=.ok d':=h
  cases q:PV.ints? l with
  | none=>rw [q] at h;cases h
  | some is=>rw [q] at h;cases h;exact ⟨l,is,rfl,q,rfl⟩
 | _=>cases h
theorem set1_ok {d d':PV} (h:set1 d=.ok d'):∃ l is,d=.list l/\PV.ints? l=some is/\is.length < 1000/\d'=.int (dcnt is):=by
 cases d with
 | list l=>
  have h:(match PV.ints? l with | some is=>if decide (is.length < 1000) then Res.ok (PV.int (dcnt is)) else .stuck | Option.none=>.stuck)=.ok d':=h
  cases q:PV.ints? l with
  | none=>rw [q] at h;cases h
  | some is=>
   rw [q] at h
   obtain ⟨h1,h2⟩:=if_ok (show (if decide (is.length < 1000)=true then Res.ok (PV.int (dcnt is)) else .stuck)=.ok d' from h)
   cases h2
   exact ⟨l,is,rfl,q,of_decide_eq_true h1,rfl⟩
 | _=>cases h
theorem sum_call (F:FixOk f) {g:Str} {gp pos:Pos} {e:Expr} {a:PE×Cl} (hg:f.t.bi g "sum" = true) (hdg:(g==("__debug__" : Str))=false) (hse:starred e=false) (ha:EvOK f cf e a.1 a.2) (hta:a.2.top=true):
  EvOK f cf (.Call (.Name g gp) [e] [] pos) (.prim .sum [a.1]) .safe:=by
 intro own ρ s x hn
 obtain ⟨rfl,hg⟩:=bi_eq hg
 simp only [TC.bi,Bool.and_eq_true,Option.isNone_iff_eq_none] at hg
 rw [ev_prim1] at hn ⊢
 refine wpAny_Call_NameR (wpAny_Name (loadBi F x hg.1.1 hg.1.2 (v:=.builtin "sum") (by decide +kernel) ?_) hdg)
 refine Calls.callWith_builtin (backTo_plain (by simp [hse])) (evalArgs_list (by simp [hse]) (by simp) ?_)
 refine wpAny_items_cons ?_ (starEach_plain hse)
 refine ha.use F x hn fun d v s₁ e1 e2 hn1 g1 x1 r1=>wpAny_items_nil ?_
 rw [e2]
 cases q:sum1 d with
 | stuck=>exact absurd q hn1
 | ok dd=>
  obtain ⟨l,is,rfl,hi,rfl⟩:=sum1_ok q
  obtain ⟨ad,us,rfl,⟨n,hl⟩,hlen,hr⟩:=r1.tp x hta
  obtain ⟨h1,h2⟩:=ints_at hi hr
  show wpAny _ _ (call (.builtin "sum") [.ref ad]) _ _ s₁
  refine call_sum_walkG (wpAny_pyIter_tuple ⟨_,hl,rfl,n,rfl⟩ ?_)
  have hla:=Heap.lt_size hl
  refine ⟨_,_,_,_,_,_,fun i=>is.getD i 0,rfl,Walks.tuple (A:=f.c.A.in1) F.ok.handled s₁.heap.objs.size ad (Nat.ne_of_lt hla) us,⟨⟨_,Heap.get?_push_size _ rfl,rfl,rfl⟩,⟨_,Heap.get?_push_of_some _ hl,rfl,n,rfl⟩⟩,fun b hb=>?_,fun i v hv=>?_,fun h' tk t' k=>?_⟩
  ·rw [Heap.size_push]
   cases hb with
   | head=>exact Nat.lt_succ_self _
   | tail _ hb=>
    cases hb with
    | head=>exact Nat.lt_succ_of_lt hla
    | tail _ hb=>cases hb
  ·obtain ⟨n,t,e3,rfl⟩:=h2 i v (by rw [Array.getElem?_toList];exact hv)
   exact ⟨t,by show Value.int n t=.int (is.getD i 0) t;rw [List.getD_eq_getElem?_getD,e3];rfl⟩
  ·refine ⟨_,q,g1.trans (.of_keeps ⟨h',tk,rfl,fun b o e=>k b o (fun hm=>?_) (Heap.get?_push_of_some _ e)⟩),t',?_⟩
   ·rw [List.mem_singleton.mp hm,newSize] at e;cases e
   ·show Value.int (PySem.preSum (fun i=>is.getD i 0) us.size) t'=.int (sumI is) t'
    unfold sumI
    rw [<-h1,Array.length_toList]
theorem lenSet_call (F:FixOk f) {g h:Str} {gp hp pos pos':Pos} {e:Expr} {a:PE×Cl} (hg:f.t.bi g "len" = true) (hdg:(g==("__debug__" : Str))=false) (hh:f.t.bi h "set" = true) (hdh:(h==("__debug__" : Str))=false) (hse:starred e=false) (ha:EvOK f cf e a.1 a.2) (hta:a.2.top=true):
  EvOK f cf (.Call (.Name g gp) [.Call (.Name h hp) [e] [] pos'] [] pos) (.prim .lenSet [a.1]) .fresh:=by
 intro own ρ s x hn
 obtain ⟨rfl,hg⟩:=bi_eq hg
 obtain ⟨rfl,hh⟩:=bi_eq hh
 simp only [TC.bi,Bool.and_eq_true,Option.isNone_iff_eq_none] at hg hh
 rw [ev_prim1] at hn ⊢
 refine wpAny_Call_NameR (wpAny_Name (loadBi F x hg.1.1 hg.1.2 (v:=.builtin "len") (by decide +kernel) ?_) hdg)
 refine Calls.callWith_builtin (by rfl) (evalArgs_list (by rfl) (by simp) ?_)
 refine wpAny_items_cons ?_ (starEach_plain (by rfl))
 refine wpAny_Call_NameR (wpAny_Name (loadBi F x hh.1.1 hh.1.2 (v:=.type "set") (by decide +kernel) ?_) hdh)
 refine PySem.callWith_type (backTo_plain (by simp [hse])) (evalArgs_list (by simp [hse]) (by simp) ?_)
 refine wpAny_items_cons ?_ (starEach_plain hse)
 refine ha.use F x hn fun d v s₁ e1 e2 hn1 g1 x1 r1=>wpAny_items_nil ?_
 rw [e2]
 cases q:set1 d with
 | stuck=>exact absurd q hn1
 | ok dd=>
  obtain ⟨l,is,rfl,hi,hlt,rfl⟩:=set1_ok q
  obtain ⟨ad,us,rfl,_,⟨n,hl⟩,hlen,hr⟩:=r1.tp x hta
  obtain ⟨h1,h2⟩:=ints_at hi hr
  rw [Array.length_toList] at h1
  show wpAny _ _ (call (.type "set") [.ref ad]) _ _ s₁
  refine PySem.call_set_list (ns:=is) F.ok.handled ⟨_,hl,rfl,n,rfl⟩ (intsAre_at hi hr) (Nat.lt_of_lt_of_le (Nat.succ_lt_succ (h1 ▸ hlt)) (by decide)) fun h' tk hS hk=>wpAny_items_nil ?_
  obtain ⟨o,es,ep,t,ho,hex,hd,_,_,_,hf,hsz⟩:=hS
  show wpAny _ _ (call (.builtin "len") [.ref s₁.heap.objs.size]) _ _ _
  have hle:=PyProof.Rows.firstMet_length_le (fun i=>is.getD i 0) us.size
  refine call_len_set ho hex hd hf (by rw [hsz];exact big63 (Int.ofNat_le.2 hle) (Nat.le_trans (Nat.le_of_lt (h1 ▸ hlt)) (by decide))) ?_
  refine ⟨_,q,g1.trans (.of_keeps ⟨h',tk+1+1,rfl,fun b o e=>hk b o (Heap.lt_size e) e⟩),tk+1,?_⟩
  rw [hsz]
  unfold dcnt
  rw [h1]
end
end Mine.Internal
end
section
namespace Mine.Internal
open PySem PySem.Spec PyProof.Rows
section
variable {f:Fix} {cf:Nat->List PV->Res PV} {own:Addr->Option Nat} {ρ:Slots} {s:Shared} {e:Expr} {p:PE} {k:Cl}
theorem dget_none {l:List (Key×PV)} {k:Key} (h:dget l k=none):dhas l k=false:=by
 unfold dget at h
 unfold dhas
 rw [Option.map_eq_none_iff,List.find?_eq_none] at h
 rw [List.any_eq_false];exact h
theorem getd_ok {c:Int} {d y d':PV} (h:getd c d y=.ok d'):∃ l k,d=.dict l/\y.key?=some k/\dfits l k=true/\d'=(dget l k).getD (.int c):=by
 cases d with
 | dict l=>
  have h:(match y.key? with | some k=>if dfits l k then Res.ok ((dget l k).getD (.int c)) else .stuck | Option.none=>.stuck)=.ok d':=h
  cases q:y.key? with
  | none=>rw [q] at h;cases h
  | some k=>
   rw [q] at h
   obtain ⟨h1,h2⟩:=if_ok (show (if dfits l k=true then Res.ok ((dget l k).getD (.int c)) else .stuck)=.ok d' from h)
   cases h2
   exact ⟨l,k,rfl,rfl,h1,rfl⟩
 | _=>cases h
theorem get_sound (F:FixOk f) {x:Str} {e:Expr} {xp apos pos cp:Pos} {ck:Nat} {c:Int} {a b:PE×Cl} (ha:EvOK f cf (.Name x xp) a.1 a.2) (hb:EvOK f cf e b.1 b.2) (hse:starred e=false) (hline:(apos.endLine==pos.line)=true) (hta:a.2.top=true) (htb:b.2.top=true):
  EvOK f cf (.Call (.Attribute (.Name x xp) "get" apos) [e,.Constant (.int c) ck cp] [] pos) (.get a.1 b.1 c) .safe:=by
 intro own ρ s st hn
 rw [vE25] at hn ⊢
 have hst:backTo pos (starEach [e,.Constant (.int c) ck cp] f.c.env)=[(false,eval e f.c.env),(false,eval (.Constant (.int c) ck cp) f.c.env)]:=by
  rw [starEach_plain hse];rfl
 refine wpAny_Call_method2_late rfl hline hst ?_
 refine ha.use F st hn fun d v s₁ e1 e2 hn1 g1 x1 r1=>?_
 rw [e2]
 have hnb:ev cf ρ b.1≠.stuck:=fun q=>hn1 (by rw [q];rfl)
 cases qb:ev cf ρ b.1 with
 | stuck=>exact absurd qb hnb
 | ok y=>
  have hn2:=hn1
  rw [qb,bindK] at hn2
  cases q:getd c d y with
  | stuck=>exact absurd q hn2
  | ok dd=>
   obtain ⟨l,key,rfl,hk,hf,rfl⟩:=getd_ok q
   have hu:f.c.A.units+200 < cLine:=by have:=F.units;exact o311 this
   have tp1:=r1.tp st hta
   obtain ⟨ad,vs,rfl,_,n1,_,dr,hr⟩:=id tp1
   have hT:s₁.TypeIs (.ref ad) "dict" /\ ∃ ob,s₁.heap.get? ad=some ob/\ob.dict=none:=by
    rcases dr with ⟨kvs,⟨o,es,ep,ho,hx,_⟩,_⟩ | ⟨xs,⟨o,es,ep,ho,hx,_⟩,_⟩
    ·exact ⟨⟨o,ho,hx.1⟩,o,ho,hx.2.1⟩
    ·exact ⟨⟨o,ho,hx.1⟩,o,ho,hx.2.1⟩
   refine ⟨"dict","dict.get",PySem.F.plainAttrs_dict,PySem.F.slot_dict_get,PySem.F.type_dict_get,hT.1,fun a' q=>by injection q with q;subst q;exact hT.2,?_⟩
   cases y with
   | int i=>
    cases hk
    refine wpAny_dict_get2 (knd:=intKind prog w) (sysNe n1) (hb.use F x1 hn1 fun d' v' s₂ e3 e4 hn3 g2 x2 r2=>wpAny_Constant_int ?_)
    rw [bindK]
    rw [qb] at e3;cases e3
    obtain ⟨t,rfl⟩:=part_int r2
    obtain ⟨ad',vs',hq,_,_,_,dr',hr'⟩:=tp1.grow x1 g2
    injection hq with hq;subst hq
    obtain ⟨kvs,hm,e5,rfl⟩:=dr'.int hf
    obtain ⟨h1,h2⟩:=valueAt_dget (i:=i) e5 hr'
    refine ⟨i,_,isInt_int i t,hm.mapOf,_,q,(g1.trans g2).trans (Grow.tok _ _),?_⟩
    cases hd:dget l (.int i) with
    | none=>
     have:(valueAt kvs i).isSome=false:=by rw [<-h1];exact dget_none hd
     rw [Option.isSome_eq_false_iff,Option.isNone_iff_eq_none] at this
     rw [this];exact ⟨_,rfl⟩
    | some d'=>
     obtain ⟨v,hv,hrv⟩:=h2 _ hd
     rw [hv];exact hrv
   | tuple l'=>
    simp only [PV.key?,Option.map_eq_some_iff] at hk
    obtain ⟨is,hi,rfl⟩:=hk
    refine wpAny_dict_get2_heap (knd:=tupleKind (intKind prog w)) (tupleKind_room_in1 (by exact o291 hu)) (sysNe n1) (hb.use F x1 hn1 fun d' v' s₂ e3 e4 hn3 g2 x2 r2=>wpAny_Constant_int ?_)
    rw [bindK]
    rw [qb] at e3;cases e3
    obtain ⟨bd,us,rfl,⟨m,hbd⟩,_,r3⟩:=r2.tp x1 htb
    obtain ⟨ad',vs',hq,_,_,_,dr',hr'⟩:=tp1.grow x1 g2
    injection hq with hq;subst hq
    obtain ⟨xs,hm,e5,rfl,_⟩:=dr'.tup hf
    obtain ⟨h1,h2⟩:=atKey_dget (i:=is) e5 hr'
    refine ⟨bd,is,xs,rfl,⟨_,us,m,hbd,rfl,rfl,itemsAre_ints hi r3⟩,hm,_,q,(g1.trans g2).trans (Grow.tok _ _),?_⟩
    cases hd:dget l (.tup is) with
    | none=>
     have:(atKey xs is).isSome=false:=by rw [<-h1];exact dget_none hd
     rw [Option.isSome_eq_false_iff,Option.isNone_iff_eq_none] at this
     rw [this];exact ⟨_,rfl⟩
    | some d'=>
     obtain ⟨v,hv,hrv⟩:=h2 _ hd
     rw [hv];exact hrv
   | _=>cases hk
theorem dct1_sound (F:FixOk f) {ke ve:Expr} {pos:Pos} {a b:PE×Cl} (ha:EvOK f cf ke a.1 a.2) (hb:EvOK f cf ve b.1 b.2):EvOK f cf (.Dict [some ke] [ve] pos) (.dct1 a.1 b.1) .fresh:=by
 intro own ρ s x hn
 rw [vE26] at hn ⊢
 have hbig:=x.big F
 have g0:Grow f.c.A s { s with heap:=s.heap.push { cls:=.type "dict",data:=.dict #[] } }:=Grow.push s _ s.toks
 have x0:=x.grow F.ok g0
 refine wpAny_Dict_pairs (knd:=intKind prog w) (pairs:=[(eval ke f.c.env,do let x <-eval ve f.c.env;standAt pos;pure x)]) rfl (by simp) (by simp) ?_
 refine evalPairs_cons (ha.use F x0 hn fun d v s₁ e1 e2 hn1 g1 x1 r1=>?_)
 rw [e2]
 refine wpAny_bind (hb.use F x1 hn1 fun d' v' s₂ e3 e4 hn2 g2 x2 r2=>wpAny_bind (wpAny_standAt (wpAny_pure (evalPairs_nil ?_))))
 rw [e4]
 have hd:∃ i j,d=.int i/\d'=.int j:=by
  cases d with
  | int i=>
   cases d' with
   | int j=>exact ⟨i,j,rfl,rfl⟩
   | _=>exact absurd rfl hn2
  | _=>exact absurd rfl hn2
 obtain ⟨i,j,rfl,rfl⟩:=hd
 obtain ⟨t,rfl⟩:=part_int r1
 obtain ⟨u,rfl⟩:=part_int r2
 have hnew:s.heap.get? s.heap.objs.size=none:=newSize _
 have hfr:s.heap.objs.size∉frs f.c.A:=fun hm=>by
  obtain ⟨_,m,o,_,_,ho,_⟩:=x.fr _ hm
  rw [hnew] at ho;cases ho
 have g12:=g1.trans g2
 have hD:s₂.heap.get? s.heap.objs.size=some { cls:=.type "dict",data:=.dict #[] }:=(g12.h _ _ (Heap.get?_push_size _ rfl)).1 hfr
 refine ⟨[(i,.int j u)],⟨isInt_int i t,rfl,trivial⟩,⟨_,#[],0,hD,⟨rfl,rfl,rfl⟩,rfl,fun _ he=>by simp at he,.nil,List.nodup_nil⟩,fun h' hm hs=>?_⟩
 have g:=g0.trans g12
 obtain ⟨h2,t2,rfl,kg⟩:=id g
 refine ⟨.dict [(.int i,.int j)],rfl,⟨h',_,rfl,fun b o hb=>?_⟩,s.heap.objs.size,[.int j u],rfl,hnew,o310 hbig,by show 1<=lim;decide,.inl ⟨[(i,.int j u)],hm,rfl,rfl⟩,⟨_,_,rfl,⟨u,rfl⟩,rfl⟩⟩
 have hne:b≠s.heap.objs.size:=fun q=>by rw [q,hnew] at hb;cases hb
 obtain ⟨k1,sl,k2⟩:=kg b o hb
 exact ⟨fun hf=>hs.extBut b o hne (k1 hf),sl,hs.extBut b _ hne k2⟩
theorem tuple_index_meets (l:Addr) (items:Array Value) (n:Nat) (x:Value) (e:Value->Bool) (he:∀ y,y∈items->MeetsSeq.EqGives y x (e y)) (j:Nat) (hj:j < items.size) (hit:e items[j]=true) (hno:∀ m (hm:m < items.size),m < j->e items[m]=false):
  Meets (Builtin.«tuple.index» ⟨[.ref l,x],[]⟩) (fun _ R s=>s.heap.get? l=some { cls:=.type "tuple",dict:=none,data:=.seq items n,slots:=#[] }/\R (.ok (.ret (.int j s.toks))) { s with toks:=s.toks+1 }):=
 .of_wp fun prog w A R s h=>by
  obtain ⟨hp,g,d,tk,os⟩:=s;obtain ⟨hl,h⟩:=h
  wp_walk using wpAny_loadPart' hl
  show wpAny _ _ (forIn (m:=Sem) ([:min items.size items.size]:Std.Legacy.Range) ((none:Option PySem.Fin),()) (fun (i:Nat) (_:Option PySem.Fin×Unit)=>match items[i]? with
   | some y=>(do
    let b <-eqBool y x
    if b=true then do
     let r <-retInt ↑i
     pure (ForInStep.done (some r,()))
    else pure (ForInStep.yield (none,())))
   | _=>pure (ForInStep.yield (none,())))) _ _ _
  rw [Std.Legacy.Range.forIn_eq_forIn_range',Nat.min_self]
  show wpAny _ _ (forIn (List.range' 0 ((items.size-0+1-1) / 1) 1) _ _) _ _ _
  rw [show (items.size-0+1-1) / 1=items.size from Nat.div_one _]
  refine wpAny_forIn_list _ (fun rest b s'=>b=((none:Option PySem.Fin),())/\s'=⟨hp,g,d,tk,os⟩/\∃ i,i<=j/\rest=List.range' i (items.size-i)) _ ?_ ?_ _ _ ⟨rfl,rfl,0,Nat.zero_le _,rfl⟩
  ·rintro y rest b s' ⟨rfl,rfl,i,hi,hr⟩
   have hlt:i < items.size:=Nat.lt_of_le_of_lt hi hj
   rw [show items.size-i=(items.size-(i+1))+1 from (Nat.succ_pred_eq_of_pos (Nat.sub_pos_of_lt hlt)).symm,List.range'_succ] at hr
   injection hr with h1 h2
   subst h1
   rw [Array.getElem?_eq_getElem hlt]
   refine wpAny_bind (he items[y] (Array.getElem_mem hlt) prog w _ _ _ _ ?_)
   rcases Nat.lt_or_ge y j with q | q
   ·rw [hno y hlt q]
    exact wpAny_pure ⟨rfl,rfl,y+1,q,h2⟩
   ·have:y=j:=Nat.le_antisymm hi q
    subst this
    rw [hit]
    refine wpAny_bind (wpAny_bind (wpAny_mkInt (wpAny_pure (wpAny_pure ?_))))
    exact wpAny_pure ⟨_,rfl,h⟩
  ·rintro b s' ⟨rfl,rfl,i,hi,hr⟩
   have:=congrArg List.length hr
   rw [List.length_range'] at this
   exact absurd this (Nat.ne_of_lt (Nat.sub_pos_of_lt (Nat.lt_of_le_of_lt hi hj)))
noncomputable def eqI (i:Int):Value->Bool
 | .int j _=>j==i
 | _=>false
theorem indexIn_ok {l:List PV} {d':PV} (hn:indexIn l d'≠.stuck):∃ is i kk,PV.ints? l=some is/\d'=.int i/\is.idxOf? i=some kk/\indexIn l d'=.ok (.int (kk:Nat)):=by
 cases q:PV.ints? l with
 | none=>exact absurd (by unfold indexIn;rw [q]) hn
 | some is=>
  cases d' with
  | int i=>
   have e:indexIn l (.int i)=(match is.idxOf? i with | some k=>Res.ok (PV.int k) | Option.none=>.stuck):=by unfold indexIn;rw [q]<;>rfl
   cases q2:is.idxOf? i with
   | none=>rw [e,q2] at hn;exact absurd rfl hn
   | some kk=>exact ⟨is,i,kk,rfl,rfl,q2,by rw [e,q2]⟩
  | _=>exact absurd (by unfold indexIn;rw [q]) hn
theorem idxOf_first {l:List Int} {i:Int} {k:Nat} (h:l.idxOf? i=some k):l[k]?=some i/\∀ m,m < k->l[m]?≠some i:=by
 rw [List.idxOf?,List.findIdx?_eq_some_iff_getElem] at h
 obtain ⟨hk,h1,h2⟩:=h
 refine ⟨by rw [List.getElem?_eq_getElem hk,eq_of_beq h1],fun m hm q=>?_⟩
 have:=h2 m hm
 rw [List.getElem?_eq_getElem (by exact o312 hk hm)] at q
 injection q with q
 rw [q] at this
 simp at this
theorem idx_facts {P:Addr->Prop} {h:Heap} {l:List PV} {is:List Int} {i:Int} {t:Tok} {kk:Nat} {vs:Array Value} (his:PV.ints? l=some is) (hk:is.idxOf? i=some kk) (hr:Rds h P l vs.toList):
  ∃ hkl:kk < vs.size,(∀ y,y∈vs->MeetsSeq.EqGives y (.int i t) (eqI i y))/\eqI i vs[kk]=true/\∀ m (hm:m < vs.size),m < kk->eqI i vs[m]=false:=by
 obtain ⟨h1,h2⟩:=ints_at his hr
 obtain ⟨q1,q2⟩:=idxOf_first hk
 have hkl:kk < vs.size:=by
  have:=(List.getElem?_eq_some_iff.mp q1).1
  rw [<-Array.length_toList,h1];exact this
 have at':∀ m (hm:m < vs.size),∃ n t,is[m]?=some n/\vs[m]=.int n t:=fun m hm=>h2 m _ (by rw [Array.getElem?_toList];exact Array.getElem?_eq_getElem hm)
 refine ⟨hkl,fun y hy=>?_,?_,fun m hm hmk=>?_⟩
 ·obtain ⟨m,hm,rfl⟩:=Array.mem_iff_getElem.mp hy
  obtain ⟨j,u,_,hju⟩:=at' m hm
  rw [hju]
  exact MeetsSeq.EqGives.int j i u t
 ·obtain ⟨j,u,hj,hju⟩:=at' kk hkl
  rw [hju]
  rw [q1] at hj;injection hj with hj
  show (j==i)=true
  rw [hj];exact beq_self_eq_true _
 ·obtain ⟨j,u,hj,hju⟩:=at' m hm
  rw [hju]
  have:=q2 m hmk
  rw [hj] at this
  show (j==i)=false
  rw [beq_eq_false_iff_ne];exact fun z=>this (by rw [z])
theorem index_sound (F:FixOk f) {x:Str} {e:Expr} {xp apos pos:Pos} {a b:PE×Cl} (ha:EvOK f cf (.Name x xp) a.1 a.2) (hb:EvOK f cf e b.1 b.2) (hse:starred e=false) (hline:(apos.endLine==pos.line)=true) (hta:a.2.top=true) (htb:b.2.top=true):
  EvOK f cf (.Call (.Attribute (.Name x xp) "index" apos) [e] [] pos) (.index a.1 b.1) .safe:=by
 intro own ρ s st hn
 rw [vE21] at hn ⊢
 have hst:backTo pos (starEach [e] f.c.env)=[(false,eval e f.c.env)]:=by rw [show starEach [e] f.c.env=[(false,eval e f.c.env)] from starEach_plain hse];rfl
 refine wpAny_Call_method1_late rfl hline hst ?_
 refine ha.use F st hn fun d v s₁ e1 e2 hn1 g1 x1 r1=>?_
 rw [e2]
 have no:∀ d:PV,(∀ y,index1 d y=.stuck)->(ev cf ρ b.1).bind (fun y=>index1 d y)=.stuck:=fun d hd=>by
  cases ev cf ρ b.1 with
  | stuck=>rfl
  | ok y=>exact hd y
 cases d with
 | list l=>
  obtain ⟨ad,vs,rfl,ho,⟨n,hl⟩,hlen,hr⟩:=r1.tp st hta
  refine ⟨"list","list.index",PySem.F.plainAttrs_list,PySem.F.slot_list_index,PySem.F.type_list_index,⟨_,hl,rfl⟩,fun a' q=>by injection q with q;subst q;exact ⟨_,hl,rfl⟩,?_⟩
  refine P.index_list (hb.use F x1 hn1 fun d' v' s₂ e3 e4 hn2 g2 x2 r2=>?_)
  rw [e4]
  obtain ⟨ad',vs',hq,ho',⟨n',hl'⟩,hlen',hr'⟩:=(r1.tp st hta).grow x1 g2
  injection hq with hq;subst hq
  obtain ⟨is,i,kk,his,rfl,hk,hix⟩:=indexIn_ok (show indexIn l d'≠.stuck from hn2)
  obtain ⟨t,rfl⟩:=part_int r2
  obtain ⟨hkl,q1,q2,q3⟩:=idx_facts (t:=t) his hk hr'
  refine ⟨vs',n',eqI i,kk,hkl,hl',q1,?_,q2,q3,_,hix,(g1.trans g2).trans (Grow.tok _ _),_,rfl⟩
  exact big63' hkl (by rw [lenOf hr'];exact hlen')
 | tuple l=>
  obtain ⟨ad,vs,rfl,⟨n,hl⟩,hlen,hr⟩:=r1.tp st hta
  refine ⟨"tuple","tuple.index",PySem.F.plainAttrs_tuple,PySem.F.slot_tuple_index,PySem.F.type_tuple_index,⟨_,hl,rfl⟩,fun a' q=>by injection q with q;subst q;exact ⟨_,hl,rfl⟩,?_⟩
  refine seqMethod1_meets PySem.F.slot_tuple_index PySem.F.entry_tuple_index (hb.use F x1 hn1 fun d' v' s₂ e3 e4 hn2 g2 x2 r2=>?_)
  rw [e4]
  obtain ⟨ad',vs',hq,⟨n',hl'⟩,hlen',hr'⟩:=(r1.tp st hta).grow x1 g2
  injection hq with hq;subst hq
  obtain ⟨is,i,kk,his,rfl,hk,hix⟩:=indexIn_ok (show indexIn l d'≠.stuck from hn2)
  obtain ⟨t,rfl⟩:=part_int r2
  obtain ⟨hkl,q1,q2,q3⟩:=idx_facts (t:=t) his hk hr'
  exact ⟨⟨_,hl',rfl⟩,PySem.F.args_tuple_index_2 _ _,_,tuple_index_meets ad vs' n' (.int i t) (eqI i) q1 kk hkl q2 q3,hl',_,hix,(g1.trans g2).trans (Grow.tok _ _),_,rfl⟩
 | none=>exact absurd (no _ fun _=>rfl) hn1
 | bool _=>exact absurd (no _ fun _=>rfl) hn1
 | int _=>exact absurd (no _ fun _=>rfl) hn1
 | dict _=>exact absurd (no _ fun _=>rfl) hn1
end
end Mine.Internal
end
section
namespace Mine.Internal
open PySem PySem.Spec PyProof.Rows
section
variable {A:Around} {E:Value->Shared->Prop} {s:Shared}
theorem extend_keys {d S I:Addr} {c0:Nat} {kvs:List (Int×Value)} {ep:Nat} {R:Result->Shared->Prop} (hh:A.handled=none) (hdI:d≠I) (hSI:S≠I) (hSd:S≠d) (hn:kvs.length < 64)
  (hI:s.heap.IsKeyIter I d 0 kvs.length ep) (hm:s.heap.DictAt (intKind prog w) d kvs ep) (hS:s.heap.get? S=some { cls:=.type "list",dict:=none,data:=.seq #[] c0,slots:=#[] })
  (hR:∀ s' acc c',Moved [S,I] (fun a b=>b=a) s s'->s'.heap.get? S=some { cls:=.type "list",dict:=none,data:=.seq acc c',slots:=#[] }->ItemsOf (fun i v=>∃ k x,kvs[i]?=some (k,x)/\(intKind prog w).is k v=true) acc kvs.length->R (.ok (.ret (.ref S))) s'):
  codeAny (model prog w) A (.builtin "list.extend.loop" ⟨[.ref S,.ref I,.ref S],[]⟩) R s:=
 codeAny_extend_loopS ((Walks.dictKeys (knd:=intKind prog w) (A:=A.in1) hh I d hdI kvs ep).toS) (by rw [sizeLine_eq];exact Nat.le_trans (Nat.le_of_lt hn) (by decide)) S (fun hm'=>by
   cases hm' with
   | head=>exact hSI rfl
   | tail _ q=>
    cases q with
    | head=>exact hSd rfl
    | tail _ q=>cases q) _ kvs.length 0 _ _ _ rfl (Nat.zero_le _) ⟨hI,hm⟩ hS (ItemsOf.nil _) hR
set_option maxHeartbeats 1000000 in
theorem collect_dict {d:Addr} {kvs:List (Int×Value)} {ep:Nat} {Q:List Value->Shared->Prop} (hh:A.handled=none) (hd:(d==sysModules)=false) (hm:s.heap.DictAt (intKind prog w) d kvs ep) (hn:kvs.length < 64)
  (hQ:∀ s' acc,Keeps s s'->ItemsOf (fun i v=>∃ k x,kvs[i]?=some (k,x)/\(intKind prog w).is k v=true) acc kvs.length->Q acc.toList s'):wpAny (model prog w) A (collect (.ref d)) Q E s:=by
 have hlt:=hm.lt_size
 unfold collect
 refine wpAny_bind (wpAny_runValue (codeAny_builtin F.entry_proto_collect ?_))
 rw [Around.under_plainId F.plain_proto_collect _]
 show wpAny _ A.in1 (newList [] >>= fun l=>again (.builtin "list.__iadd__" ⟨[l,.ref d],[]⟩)) _ _ s
 refine wpAny_bind (wpAny_newObj_type ?_)
 refine wpAny_pure ⟨plainId_quiet F.plain_list_iadd _,codeAny_builtin F.entry_list_iadd ?_⟩
 rw [Around.under_plainId F.plain_list_iadd _]
 have hS₁:(s.heap.push { cls:=.type "list",data:=.seq ([]:List Value).toArray }).get? s.heap.objs.size=some { cls:=.type "list",data:=.seq ([]:List Value).toArray }:=Heap.get?_push_size _ rfl
 have hm1:(s.heap.push { cls:=.type "list",data:=.seq ([]:List Value).toArray }).DictAt (intKind prog w) d kvs ep:=hm.push _
 have hT:Shared.TypeIs { s with heap:=s.heap.push { cls:=.type "list",data:=.seq ([]:List Value).toArray } } (.ref d) "dict" := hm1.dictOf.typeIs
 have h1:Builtin.List.listSameRef (.ref s.heap.objs.size) (.ref d)=false:=by simp [Builtin.List.listSameRef,Nat.ne_of_gt hlt]
 show wpAny _ A.in1 (Builtin.List.listExtendWith (.ref s.heap.objs.size) (.ref d) (.ref s.heap.objs.size)) _ _ _
 unfold Builtin.List.listExtendWith
 refine wpAny_bind (wpAny_typeOf hT ?_)
 rw [if_neg (by rw [h1];decide)]
 refine wpAny_bind (wpAny_pyIter_dict hd hm1 ?_)
 have hm2:=hm1.push { cls:=.type "dict_keyiterator",data:=.fields #[.ref d,.int 0 0,.int kvs.length 0,.int ep 0] }
 have hT2:Shared.TypeIs { s with heap:=(s.heap.push { cls:=.type "list",data:=.seq ([]:List Value).toArray }).push { cls:=.type "dict_keyiterator",data:=.fields #[.ref d,.int 0 0,.int kvs.length 0,.int ep 0] } } (.ref d) "dict" := hm2.dictOf.typeIs
 refine wpAny_bind (wpAny_holding ?_)
 unfold Builtin.List.listLengthHint
 refine wpAny_bind (wpAny_specialOf hT2 F.slot_dict_len.lookup ?_)
 (generalize hid:("dict.__len__" : String)=id0;(fail_if_success (clear hid id0));wp_delta;rw [show splitId id0=some ("dict","__len__") from by subst hid;decide +kernel];subst hid)
 refine wpAny_bind (wpAny_isInstance (b:=true) hT2 (by rw [isSubtype_type];kernel_rfl) ?_)
 rw [if_neg (by decide)]
 dsimp only
 rw [if_pos (by decide +kernel)]
 refine wpAny_bind (wpAny_typeOf hT2 ?_)
 refine wpAny_pure ?_
 rw [if_pos (by decide +kernel)]
 refine wpAny_bind (wpAny_rule ?_)
 have hS2:((s.heap.push { cls:=.type "list",data:=.seq ([]:List Value).toArray }).push { cls:=.type "dict_keyiterator",data:=.fields #[.ref d,.int 0 0,.int kvs.length 0,.int ep 0] }).get? s.heap.objs.size=some (seqObj "list" #[] 0):=Heap.get?_push_of_some _ hS₁
 have hS3:=get?_update_seq hS2 (fun xs=>xs.push Value.none)
 have hS4:=get?_update_seq hS3 (fun xs=>xs.pop)
 generalize hH:(s.heap.push { cls:=.type "list",data:=.seq ([]:List Value).toArray }).push { cls:=.type "dict_keyiterator",data:=.fields #[.ref d,.int 0 0,.int kvs.length 0,.int ep 0] }=H at *
 unfold Builtin.List.listTouch
 refine wpAny_bind (wpAny_bind (listUpdate_at (f:=fun xs=>xs.push Value.none) hS2 rfl (listUpdate_at (f:=fun xs=>xs.pop) hS3 rfl ?_ (by show 1<=sizeLine;decide) (Nat.zero_le _)) (Nat.zero_le _) (Nat.succ_le_succ (Nat.zero_le _))))
 have hsz:(s.heap.push { cls:=.type "list",data:=.seq ([]:List Value).toArray }).objs.size=s.heap.objs.size+1:=size_push' _ _
 have hI:H.IsKeyIter (s.heap.objs.size+1) d 0 kvs.length ep:=by
  rw [<-hH,<-hsz];exact ⟨_,Heap.get?_push_size _ rfl,rfl,rfl⟩
 have keep:∀ b o,s.heap.get? b=some o->H.get? b=some o:=fun b o e=>by
  rw [<-hH];exact Heap.get?_push_of_some _ (Heap.get?_push_of_some _ e)
 have oth:∀ b,b≠s.heap.objs.size->((H.update s.heap.objs.size (Obj.mapSeq fun xs=>xs.push Value.none)).update s.heap.objs.size (Obj.mapSeq fun xs=>xs.pop)).get? b=H.get? b:=fun b hb=>
  (Heap.get?_update_other _ _ (Ne.symm hb)).trans (Heap.get?_update_other _ _ (Ne.symm hb))
 have hS5:∃ c0,((H.update s.heap.objs.size (Obj.mapSeq fun xs=>xs.push Value.none)).update s.heap.objs.size (Obj.mapSeq fun xs=>xs.pop)).get? s.heap.objs.size=some { cls:=.type "list",dict:=none,data:=.seq #[] c0,slots:=#[] }:=⟨_,hS4⟩
 rw [hsz]
 clear hS3 hS4 hS2 hT hT2 hm1 hS₁ h1 hH
 show wpAny _ _ (again _) _ _ { s with heap:=(H.update s.heap.objs.size (Obj.mapSeq fun xs=>xs.push Value.none)).update s.heap.objs.size (Obj.mapSeq fun xs=>xs.pop) }
 generalize (H.update s.heap.objs.size (Obj.mapSeq fun xs=>xs.push Value.none)).update s.heap.objs.size (Obj.mapSeq fun xs=>xs.pop)=H4 at *
 obtain ⟨c0,hS5⟩:=hS5
 have hne1:s.heap.objs.size+1≠s.heap.objs.size:=Nat.succ_ne_self _
 have hdS:d≠s.heap.objs.size:=Nat.ne_of_lt hlt
 refine wpAny_pure ⟨plainId_quiet F.plain_extend_loop _,extend_keys (c0:=c0) hh (Nat.ne_of_lt (Nat.lt_succ_of_lt hlt)) (Ne.symm hne1) (Ne.symm hdS) hn (hI.at fun o e=>(oth _ hne1).trans e) (hm2.at' fun o e=>(oth _ hdS).trans e) hS5 fun s' acc' c' hmv hS' hacc=>?_⟩
 show wpAny _ A (load s.heap.objs.size >>= _) _ _ s'
 refine wpAny_bind (wpAny_load hS' (wpAny_pure (hQ s' acc' ?_ hacc)))
 refine ⟨s'.heap,s'.toks,?_,fun b o e=>?_⟩
 ·obtain ⟨_,h2,h3,h4,_⟩:=hmv
  obtain ⟨a1,a2,a3,a4,a5⟩:=s'
  cases h2;cases h3;cases h4;rfl
 ·have hb:=Heap.lt_size e
  refine hmv.heap b o (fun hm'=>?_) ((oth b (Nat.ne_of_lt hb)).trans (keep b o e))
  cases hm' with
  | head=>exact Nat.lt_irrefl _ hb
  | tail _ q=>
   cases q with
   | head=>exact Nat.lt_irrefl _ (Nat.lt_of_succ_lt hb)
   | tail _ q=>cases q
end
end Mine.Internal
end
section
namespace Mine.Internal
open PySem PySem.Spec PyProof.Rows
theorem srtM_perm {l:List Int}:(srt l).Perm l:=List.mergeSort_perm ..
theorem srtM_le {l:List Int}:(srt l).Pairwise (·<=·):=by
 have h:=List.pairwise_mergeSort (le:=fun a b:Int=>decide (a<=b)) (fun a b c h1 h2=>decide_eq_true (Int.le_trans (of_decide_eq_true h1) (of_decide_eq_true h2))) (fun a b=>by simp only [Bool.or_eq_true,decide_eq_true_eq];exact Int.le_total a b) l
 exact h.imp fun h=>of_decide_eq_true h
theorem srtM_uniq {l m:List Int} (h1:m.Perm l) (h2:m.Pairwise (·<=·)):m=srt l:=
 (h1.trans srtM_perm.symm).eq_of_pairwise (fun _ _ _ _ a b=>Int.le_antisymm a b) h2 srtM_le
theorem ints_of:∀ {kvs:List (Int×Value)} {acc:List Value},acc.length=kvs.length->(∀ (j:Nat) (v:Value),acc[j]?=some v->∃ k x,kvs[j]?=some (k,x)/\∃ t,v=Value.int k t)->IntsAre acc (kvs.map (·.1))
 | [],[],_,_=>.nil
 | [],_::_,e,_=>by cases e
 | _::_,[],e,_=>by cases e
 | (k,x)::kvs,v::acc,e,h=>by
  obtain ⟨k',x',h1,t,rfl⟩:=h 0 v rfl
  cases h1
  exact .cons k t (ints_of (by simpa using e) fun j u hu=>h (j+1) u hu)
section
variable {A:Around} {E:Value->Shared->Prop} {s:Shared}
theorem sorted_dict {d:Addr} {kvs:List (Int×Value)} {ep:Nat} {Q:Value->Shared->Prop} (hh:A.handled=none) (hd:(d==sysModules)=false) (hm:s.heap.DictAt (intKind prog w) d kvs ep) (hn:kvs.length < 64)
  (hQ:∀ a s' (out:Array Value) e,Keeps s s'->s.heap.get? a=none->s'.heap.get? a=some (seqObj "list" out e)->IntsAre out.toList (srt (kvs.map (·.1)))->Q (.ref a) s'):
  wpAny (model prog w) A (call (.builtin "sorted") [.ref d]) Q E s:=by
 refine Calls.call_function_entry kind_sorted plain_sorted entry_sorted (args_sorted1 _) ?_
 unfold Builtin.«sorted»
 refine wpAny_bind (m:=checkCount "sorted" 1 1 _) (wpAny_pure ?_)
 refine wpAny_bind (collect_dict hh hd hm hn fun s₁ acc hk hacc=>?_)
 have hI:IntsAre acc.toList (kvs.map (·.1)):=ints_of (by rw [Array.length_toList];exact hacc.1) fun j v hv=>by
  obtain ⟨k,x,h1,h2⟩:=hacc.2 j v (by rw [<-Array.getElem?_toList];exact hv)
  exact ⟨k,x,h1,Value.isInt_shape h2⟩
 refine wpAny_bind (wpAny_newList ?_)
 have hoL:(s₁.heap.push (seqObj "list" acc.toList.toArray 0)).get? s₁.heap.objs.size=some (seqObj "list" acc.toList.toArray 0):=Heap.get?_push_size _ rfl
 show wpAny _ _ _ _ _ { s₁ with heap:=s₁.heap.push (seqObj "list" acc.toList.toArray 0) }
 refine wpAny_bind (wpAny_holding (wpAny_call_entry slot_list_sort ⟨_,hoL,rfl⟩ entry_list_sort (list_sort_tree hoL hI (by rw [Array.length_toList,hacc.1];exact hn) fun out ns' a1 a2 a3=>⟨_,rfl,?_⟩) (args_list_sort _)))
 obtain ⟨h1,t1,rfl,k1⟩:=hk
 obtain ⟨e,he⟩:=sortedHeap_at (out:=out) hoL
 refine wpAny_pure ⟨_,rfl,hQ _ _ out e ⟨_,_,rfl,fun b o hb=>?_⟩ ?_ he (srtM_uniq a2 a3 ▸ a1)⟩
 ·have hb1:=k1 b o hb
  have hlt:=Heap.lt_size hb1
  show (sortedHeap (h1.push (seqObj "list" acc.toList.toArray 0)) h1.objs.size acc.toList out).get? b=some o
  rw [sortedHeap_old (Nat.ne_of_lt hlt) (by rw [size_push'];exact Nat.lt_succ_of_lt hlt)]
  exact Heap.get?_push_of_some _ hb1
 ·cases q:s.heap.get? h1.objs.size with
  | none=>rfl
  | some o=>exact absurd (Heap.lt_size (k1 _ _ q)) (Nat.lt_irrefl _)
end
section
variable {f:Fix} {cf:Nat->List PV->Res PV} {own:Addr->Option Nat} {ρ:Slots} {s:Shared} {e:Expr} {p:PE} {k:Cl}
theorem sort1_ok {d d':PV} (h:sort1 d=.ok d'):∃ l,d=.dict l/\dfits l (.int 0)=true/\l.length < 64/\d'=.list ((srt (l.map fun p=>p.1.i)).map PV.int):=by
 cases d with
 | dict l=>
  obtain ⟨h1,h2⟩:=if_ok (show (if (dfits l (.int 0)&&decide (l.length < 64))=true then Res.ok (PV.list ((srt (l.map fun p=>p.1.i)).map PV.int)) else .stuck)=.ok d' from h)
  cases h2
  rw [Bool.and_eq_true,decide_eq_true_eq] at h1
  exact ⟨l,rfl,h1.1,h1.2,rfl⟩
 | _=>cases h
theorem rdsI {h:Heap} {P:Addr->Prop}:∀ {vs:List Value} {ns:List Int},IntsAre vs ns->Rds h P (ns.map .int) vs
 | _,_,.nil=>rfl
 | _,_,.cons n t r=>⟨_,_,rfl,⟨t,rfl⟩,rdsI r⟩
theorem sorted_call (F:FixOk f) {g:Str} {gp pos:Pos} {e:Expr} {a:PE×Cl} (hg:f.t.bi g "sorted" = true) (hdg:(g==("__debug__" : Str))=false) (hse:starred e=false) (ha:EvOK f cf e a.1 a.2) (hta:a.2.top=true):
  EvOK f cf (.Call (.Name g gp) [e] [] pos) (.prim .sorted [a.1]) .fresh:=by
 intro own ρ s x hn
 obtain ⟨rfl,hg⟩:=bi_eq hg
 simp only [TC.bi,Bool.and_eq_true,Option.isNone_iff_eq_none] at hg
 rw [ev_prim1] at hn ⊢
 refine wpAny_Call_NameR (wpAny_Name (loadBi F x hg.1.1 hg.1.2 (v:=.builtin "sorted") (by decide +kernel) ?_) hdg)
 refine Calls.callWith_builtin (backTo_plain (by simp [hse])) (evalArgs_list (by simp [hse]) (by simp) ?_)
 refine wpAny_items_cons ?_ (starEach_plain hse)
 refine ha.use F x hn fun d v s₁ e1 e2 hn1 g1 x1 r1=>wpAny_items_nil ?_
 rw [e2]
 cases q:sort1 d with
 | stuck=>exact absurd q hn1
 | ok dd=>
  obtain ⟨l,rfl,hf,hlt,rfl⟩:=sort1_ok q
  obtain ⟨ad,vs,rfl,_,n1,_,dr,hr⟩:=r1.tp x hta
  obtain ⟨kvs,hm,e5,rfl⟩:=dr.int hf
  obtain ⟨ep,hm⟩:=hm.dictAt
  have hkl:kvs.length=l.length:=by have:=congrArg List.length e5;simpa using this.symm
  have hks:(l.map fun p=>p.1.i)=kvs.map (·.1):=by
   have:=congrArg (List.map Key.i) e5
   rw [List.map_map,List.map_map] at this
   exact this
  show wpAny _ _ (call (.builtin "sorted") [.ref ad]) _ _ s₁
  refine sorted_dict F.ok.handled (sysNe n1) hm (by rw [hkl];exact hlt) fun a s' out e' hk hnew ho hI=>?_
  have g2:Grow f.c.A s₁ s':=.of_keeps hk
  refine ⟨_,q,g1.trans g2,a,out,rfl,g1.h.none hnew,⟨e',ho⟩,?_,?_⟩
  ·rw [List.length_map,srtM_perm.length_eq,List.length_map]
   exact Nat.le_trans (Nat.le_of_lt hlt) (by decide)
  ·rw [hks];exact rdsI hI
end
end Mine.Internal
end
section
namespace Mine.Internal
open PySem PySem.Spec PyProof.Rows
section
variable {A:Around} {E:Value->Shared->Prop} {s:Shared}
theorem iter_ents {d:Addr} {o:Obj} {es:Array DictEntry} {ep:Nat} {Q:Value->Shared->Prop} (hd:(d==sysModules)=false) (ho:s.heap.get? d=some o) (hc:o.cls=.type "dict") (hdat:o.data=.dict es ep)
  (hQ:Q (.ref s.heap.objs.size) { s with heap:=s.heap.push { cls:=.type "dict_keyiterator",data:=.fields #[.ref d,.int 0 0,.int es.size 0,.int ep 0] } }):
  wpAny (model prog w) A (pyIter (.ref d)) Q E s:=by
 have hT:s.TypeIs (.ref d) "dict" := ⟨o,ho,hc⟩
 refine wpAny_pyIter_slot hT F.slot_dict_iter (wpAny_call_entry F.slot_dict_iter hT F.entry_dict_iter ?_ (F.args_dict_iter_1 _))
 refine wpAny_bind ?_
 unfold Builtin.Dict.dictSlotNone
 refine wpAny_bind (wpAny_notOrdered_dict hT ?_)
 show wpAny _ _ (pure (Value.ref d)) _ _ s
 refine wpAny_pure ?_
 show wpAny _ _ (Builtin.Dict.showsAll d >>= _) _ _ s
 unfold Builtin.Dict.showsAll
 rw [if_neg (by rw [hd];exact Bool.false_ne_true)]
 refine wpAny_bind (wpAny_pure (wpAny_bind (wpAny_dictEntries ho hdat (wpAny_bind (wpAny_dictEpoch ho hdat ?_)))))
 exact wpAny_bind (wpAny_newObj_type (wpAny_pure ⟨_,rfl,"dict_keyiterator",_,⟨_,Heap.get?_push_size _ rfl,rfl⟩,F.slot_dict_keyiterator_next.lookup,hQ⟩))
theorem next_ents {it d:Addr} {i ep:Nat} {od:Obj} {es:Array DictEntry} {Q:Option Value->Shared->Prop} (hh:A.handled=none) (hit:s.heap.IsKeyIter it d i es.size ep) (hod:s.heap.get? d=some od) (hdd:od.data=.dict es ep)
  (h1:∀ hlt:i < es.size,∀ h',h'.IsKeyIter it d (i+1) es.size ep->Heap.SameBut it s.heap h'->Q (some es[i].key) { s with heap:=h' }) (h2:¬ i < es.size->∀ h',Heap.ExtBut it s.heap h'->Q none { s with heap:=h' }):
  wpAny (model prog w) A (pyNext (.ref it)) Q E s:=by
 obtain ⟨o,ho,hc,hd⟩:=id hit
 unfold pyNext
 refine wpAny_bind (wpAny_attempt (wpAny_callSpecial?_slot (name:=Str.ofString "__next__") hit.typeIs F.slot_dict_keyiterator_next
  (wpAny_call_entry F.slot_dict_keyiterator_next hit.typeIs F.entry_dict_keyiterator_next ?_ (F.args_dict_keyiterator_next_1 _))))
 refine wpAny_bind (wpAny_pure (wpAny_bind (wpAny_bind (wpAny_bind (wpAny_typeNameOfWhole_keyiter hit.typeIs (wpAny_pure (wpAny_bind (wpAny_fieldsOf ho hd ?_))))))))
 refine wpAny_ite_false (c:=(Value.ref d==Value.none)=true) rfl ?_
 refine wpAny_bind (wpAny_pure (wpAny_bind (wpAny_dictEntries hod hdd ?_)))
 refine wpAny_ite_false (decide_eq_false (by simp)) ?_
 refine wpAny_bind (wpAny_pure (wpAny_bind (wpAny_dictEpoch hod hdd ?_)))
 refine wpAny_ite_false (decide_eq_false (by simp)) (wpAny_pure ?_)
 by_cases hlt:i < es.size
 ·have e:(if (i:Int) < 0 then none else es[(i:Int).toNat]?)=some es[i]:=(if_neg (Int.not_lt.mpr (Int.natCast_nonneg i))).trans (Array.getElem?_eq_getElem hlt)
  show wpAny _ _ (match (if (i:Int) < 0 then none else es[(i:Int).toNat]?) with | some e=>_ | none=>_) _ _ s
  rw [e]
  refine wpAny_bind (wpAny_bind (wpAny_typeNameOfWhole_keyiter hit.typeIs (wpAny_pure (wpAny_bind (wpAny_isOneOf_keyiter hit.typeIs ?_)))))
  show wpAny _ _ (setField (.ref it) 1 (rawInt ((i:Int)+1)) >>= _) _ _ s
  refine wpAny_bind (wpAny_setField ho hd (by simp) ?_)
  have hit':(s.heap.update it (Obj.mapFields (·.setIfInBounds 1 (rawInt ((i:Int)+1))))).IsKeyIter it d (i+1) es.size ep:=
   ⟨_,Heap.get?_update_self _ ho (Obj.isFreed_of_fields (Obj.data_mapFields hd _)),(Obj.cls_mapFields ..).trans hc,by rw [Obj.data_mapFields hd];simp [rawInt]⟩
  refine wpAny_bind (wpAny_holding (wpAny_bind (wpAny_isOneOf_keyiter (s:={ s with heap:=s.heap.update it (Obj.mapFields (·.setIfInBounds 1 (rawInt ((i:Int)+1)))) }) hit'.typeIs ?_)))
  show wpAny _ _ (pure es[i].key) _ _ _
  exact wpAny_pure (wpAny_pure ⟨_,rfl,wpAny_pure (h1 hlt _ hit' (Heap.SameBut.update ..))⟩)
 ·have e:(if (i:Int) < 0 then none else es[(i:Int).toNat]?)=none:=(if_neg (Int.not_lt.mpr (Int.natCast_nonneg i))).trans (Array.getElem?_eq_none (Nat.le_of_not_lt hlt))
  show wpAny _ _ (match (if (i:Int) < 0 then none else es[(i:Int).toNat]?) with | some e=>_ | none=>_) _ _ s
  rw [e]
  refine wpAny_bind (wpAny_bind (wpAny_typeNameOfWhole_keyiter hit.typeIs (wpAny_pure ?_)))
  show wpAny _ _ (setField (.ref it) 0 .none >>= _) _ _ s
  refine wpAny_bind (wpAny_setField ho hd (by simp) (wpAny_bind ?_))
  unfold newExc newTuple
  refine wpAny_bind (wpAny_newObj_type ?_ (by size_fits))
  refine wpAny_bind (m:=firstArgMember _ _) (wpAny_of_eq (a:=Value.none) rfl ?_)
  refine wpAny_newObj_type (wpAny_raiseNew_none (show A.in1.handled=none from hh) ?_) (by size_fits)
  refine wpAny_bind (wpAny_isInstance (T := "StopIteration") (b:=true) ⟨_,Heap.get?_push_size _ rfl,rfl⟩ isSubtype_stop ?_)
  exact wpAny_pure (h2 hlt _ (((Heap.SameBut.update ..).extBut.push _).push _))
end
section
variable {h:Heap} {P:Addr->Prop}
theorem items_rds {ks:List Int} {vs:List Value} (x:ItemsAre (intKind prog w) ks vs):Rds h P (ks.map .int) vs:=by
 induction x with
 | nil=>rfl
 | cons h1 _ ih=>exact ⟨_,_,rfl,Value.isInt_shape h1,ih⟩
theorem tupleKey_rd {ks:List Int} {a:Addr} (x:IsTupleKey (intKind prog w) h ks a) {us:Array Value} (q:SeqAt h "tuple" a us) (hl:us.size<=lim):Rd h P (.tuple (ks.map .int)) (.ref a):=by
 obtain ⟨o,it,n,ho,hc,hd,r⟩:=x
 obtain ⟨m,q⟩:=q
 rw [ho] at q;cases q
 cases hd
 exact ⟨a,us,rfl,⟨_,ho⟩,by rw [List.length_map,r.length,Array.length_toList];exact hl,items_rds r⟩
theorem DictRep.ents {a:Addr} {l:List (Key×PV)} {vs:List Value} (f:(dfits l (.int 0)||dfits l (.tup []))=true) (x:DictRep h a (l.map (·.1)) vs):
  ∃ o es ep,h.get? a=some o/\o.cls=.type "dict" /\ o.data=.dict es ep/\∀ P:Addr->Prop,Rds h P (l.map fun p=>p.1.pv) (es.toList.map (·.key)):=by
 rw [Bool.or_eq_true] at f
 rcases f with f | f
 ·obtain ⟨kvs,⟨o,es,ep,ho,hx,hd,-,hp,-⟩,e,-⟩:=x.int f
  refine ⟨o,es,ep,ho,hx.1,hd,fun P=>?_⟩
  rw [show (l.map fun p=>p.1.pv)=kvs.map fun p=>PV.int p.1 by
   have:=congrArg (List.map Key.pv) e
   rw [List.map_map,List.map_map] at this
   exact this]
  clear e x
  generalize es.toList=el at hp
  induction hp with
  | nil=>rfl
  | cons h1 h2 _ ih=>exact ⟨_,_,rfl,Value.isInt_shape h1,ih⟩
 ·obtain ⟨xs,⟨o,es,ep,ho,hx,hd,he,hk,-⟩,e,-,ht⟩:=x.tup f
  refine ⟨o,es,ep,ho,hx.1,hd,fun P=>?_⟩
  rw [he,List.map_map,show (l.map fun p=>p.1.pv)=xs.map fun p=>PV.tuple (p.1.map .int) by
   have:=congrArg (List.map Key.pv) e
   rw [List.map_map,List.map_map] at this
   exact this]
  clear e x he
  induction xs with
  | nil=>rfl
  | cons y xs ih=>
   obtain ⟨us,q,hl⟩:=ht y List.mem_cons_self
   exact ⟨_,_,rfl,tupleKey_rd (hk y List.mem_cons_self) q hl,ih (fun z hz=>hk z (List.mem_cons_of_mem _ hz)) fun z hz=>ht z (List.mem_cons_of_mem _ hz)⟩
end
end Mine.Internal
end
section
namespace Mine.Internal
open PySem PySem.Spec PyProof.Rows
open AutoSeq1 (wpAny_loadPart')
section
variable {A:Around} {E:Value->Shared->Prop} {s:Shared}
theorem nextOf_tuple_item {it t:Addr} {i:Nat} {items:Array Value} {x:Value} {Q:Value->Shared->Prop} (hit:s.heap.IsTupleIter it t i) (ht:s.heap.IsTuple t items) (hx:items[i]?=some x)
  (hQ:∀ h',h'.IsTupleIter it t (i+1)->Heap.SameBut it s.heap h'->Q x { s with heap:=h' }):wpAny (model prog w) A (Builtin.SmallTypes.nextOf (.ref it)) Q E s:=by
 obtain ⟨o,ho,hc,hd⟩:=id hit
 obtain ⟨ol,hol,_,nl,hdl⟩:=ht
 have hT:s.TypeIs (.ref it) "tuple_iterator" := ⟨o,ho,hc⟩
 unfold Builtin.SmallTypes.nextOf
 refine wpAny_bind (wpAny_callSpecial?_slot (name:=Str.ofString "__next__") hT F.slot_tuple_iterator_next
  (wpAny_call_entry F.slot_tuple_iterator_next hT F.entry_tuple_iterator_next ?_ (F.args_tuple_iterator_next_1 _)))
 show wpAny _ _ (field (.ref it) 0 >>= _) _ _ s
 refine wpAny_bind (wpAny_field ho hd (x:=.ref t) rfl ?_)
 show wpAny _ _ (if (Value.ref t==Value.none)=true then _ else _) _ _ s
 rw [if_neg (show ¬ ((Value.ref t==Value.none)=true) from Bool.false_ne_true)]
 show wpAny _ _ (field (.ref it) 1 >>= _) _ _ s
 refine wpAny_bind (wpAny_field ho hd (x:=.int i 0) rfl ?_)
 show wpAny _ _ (seqItems? (.ref t) >>= _) _ _ s
 refine wpAny_bind (wpAny_seqItems hol hdl ?_)
 simp only [Int.toNat_natCast,hx]
 refine wpAny_bind (wpAny_setField ho hd (by simp) (wpAny_pure ⟨x,rfl,wpAny_pure (hQ _ ⟨_,Heap.get?_update_self _ ho (Obj.isFreed_of_fields (Obj.data_mapFields hd _)),(Obj.cls_mapFields ..).trans hc,?_⟩ (Heap.SameBut.update ..))⟩))
 rw [Obj.data_mapFields hd];simp [rawInt]
theorem nextOf_tuple_end {it t:Addr} {i:Nat} {items:Array Value} {Q:Value->Shared->Prop} (hh:A.handled=none) (hit:s.heap.IsTupleIter it t i) (ht:s.heap.IsTuple t items) (hx:items[i]?=none)
  (hE:∀ h' e,Heap.ExtBut it s.heap h'->(∃ o,h'.get? e=some o/\o.cls=.type "StopIteration")->E (.ref e) { s with heap:=h' }):wpAny (model prog w) A (Builtin.SmallTypes.nextOf (.ref it)) Q E s:=by
 obtain ⟨o,ho,hc,hd⟩:=id hit
 obtain ⟨ol,hol,_,nl,hdl⟩:=ht
 have hT:s.TypeIs (.ref it) "tuple_iterator" := ⟨o,ho,hc⟩
 unfold Builtin.SmallTypes.nextOf
 refine wpAny_bind (wpAny_callSpecial?_slot (name:=Str.ofString "__next__") hT F.slot_tuple_iterator_next
  (wpAny_call_entry F.slot_tuple_iterator_next hT F.entry_tuple_iterator_next ?_ (F.args_tuple_iterator_next_1 _)))
 show wpAny _ _ (field (.ref it) 0 >>= _) _ _ s
 refine wpAny_bind (wpAny_field ho hd (x:=.ref t) rfl ?_)
 show wpAny _ _ (if (Value.ref t==Value.none)=true then _ else _) _ _ s
 rw [if_neg (show ¬ ((Value.ref t==Value.none)=true) from Bool.false_ne_true)]
 show wpAny _ _ (field (.ref it) 1 >>= _) _ _ s
 refine wpAny_bind (wpAny_field ho hd (x:=.int i 0) rfl ?_)
 show wpAny _ _ (seqItems? (.ref t) >>= _) _ _ s
 refine wpAny_bind (wpAny_seqItems hol hdl ?_)
 simp only [Int.toNat_natCast,hx]
 refine wpAny_bind (wpAny_rule (wpAny_bind (wpAny_setField ho hd (by simp) (wpAny_bind ?_))))
 unfold newExc newTuple
 refine wpAny_bind (wpAny_newObj_type ?_ (by size_fits))
 refine wpAny_bind (m:=firstArgMember _ _) (wpAny_of_eq (a:=Value.none) rfl ?_)
 exact wpAny_newObj_type (wpAny_raiseNew_none hh (hE _ _ (((Heap.SameBut.update ..).extBut.push _).push _) ⟨_,Heap.get?_push_size _ rfl,rfl⟩)) (by size_fits)
theorem drawsTuple (hh:A.handled=none) (it l:Addr) (hne:l≠it) (items:Array Value):
  Draws prog w A it [it,l] items.size (fun i v=>items[i]?=some v) (fun i h=>h.IsTupleIter it l i/\h.IsTuple l items) where
 live:=fun _ _ st=>let ⟨o,ho,_⟩:=st.1;⟨o,ho⟩
 frame:=fun _ _ _ st hk=>⟨st.1.at fun o e=>hk it (by simp) o e,st.2.at fun o e=>hk l (by simp) o e⟩
 item:=fun i s Q E hi st hQ=>by
  refine nextOf_tuple_item st.1 st.2 (x:=items[i]) (by simp [hi]) fun h' hit' hs'=>?_
  refine hQ _ h' s.toks (by simp [hi]) ⟨hit',st.2.at fun o e=>?_⟩ hs'
  exact hs'.extBut l o hne e
 done:=fun s Q E st hE=>nextOf_tuple_end hh st.1 st.2 (by simp) hE
theorem pure_any {α:Type} {M:Model} {a:α} {Q:α->Shared->Prop} (h:∀ b,Q b s):wpAny M A (pure a) Q E s:=wpAny_pure (h a)
set_option maxRecDepth 100000 in
theorem meets_enumerate_tuple (l:Addr) (items:Array Value) (n:Nat) (dct:Option Addr) (sl:Array (Option Value)):
  Meets (Builtin.«enumerate.__new__» ⟨[.type "enumerate",.ref l],[]⟩) (fun _ R s=>s.heap.get? l=some { cls:=.type "tuple",dict:=dct,data:=.seq items n,slots:=sl } /\
   R (.ok (.ret (.ref (s.heap.push { cls:=.type "tuple_iterator",data:=.fields #[.ref l,.int 0 0] }).objs.size)))
    { s with heap:=(s.heap.push { cls:=.type "tuple_iterator",data:=.fields #[.ref l,.int 0 0] }).push { cls:=.type "enumerate",data:=.fields #[.none,.bool false,.ref s.heap.objs.size,rawInt 0,.none,.none] } }):=
 .of_wp fun prog w A R s h=>by
  obtain ⟨hp,g,d,tk,os⟩:=s;obtain ⟨hl,h⟩:=h
  have hsub:=sub_enumerate
  have hL:Heap.IsTuple (Shared.heap ⟨hp,g,d,tk,os⟩) l items:=⟨_,hl,rfl,n,rfl⟩
  wp_walk using wpAny_loadPart' hl
  refine wpAny_stack_any fun st=>pure_any (α:=Bool) fun b=>?_
  cases b<;>(wp_walk using wpAny_loadPart' hl,wpAny_pyIter_tuple hL;exact ⟨_,rfl,h⟩)
theorem call_enumerate_tuple {l:Addr} {items:Array Value} {n:Nat} {Q:Value->Shared->Prop} (hl:s.heap.get? l=some { cls:=.type "tuple",dict:=none,data:=.seq items n,slots:=#[] })
  (h:∀ h',IsEnum h' (s.heap.objs.size+1) s.heap.objs.size 0 .none->h'.IsTupleIter s.heap.objs.size l 0->h'.objs.size=s.heap.objs.size+2 ->
   (∀ b o,s.heap.get? b=some o->h'.get? b=some o)->Q (.ref (s.heap.objs.size+1)) { s with heap:=h' }):
  wpAny (model prog w) A (call (.type "enumerate") [.ref l]) Q E s:=by
 refine callType_new F.called_enumerate (by decide) (F.typeCall_enumerate_1 _) (F.newCall_enumerate_1 _) (fun obj=>F.args_object_init_2 obj _) F.entry_enumerate_new
  (meets_enumerate_tuple l items n none #[]) ⟨hl,?_⟩
 have hz:(s.heap.push { cls:=.type "tuple_iterator",data:=.fields #[.ref l,.int 0 0] }).objs.size=s.heap.objs.size+1:=Heap.size_push ..
 have he:=Heap.get?_push_size (s.heap.push { cls:=.type "tuple_iterator",data:=.fields #[.ref l,.int 0 0] })
   (o:={ cls:=.type "enumerate",data:=.fields #[.none,.bool false,.ref s.heap.objs.size,rawInt 0,.none,.none] }) rfl
 rw [hz] at he
 show _/\_
 rw [hz]
 exact ⟨⟨_,he,rfl⟩,h _ he ⟨_,Heap.get?_push_of_some _ (Heap.get?_push_size _ rfl),rfl,rfl⟩ (by rw [Heap.size_push,hz]) fun b o x=>Heap.get?_push_of_some _ (Heap.get?_push_of_some _ x)⟩
end
end Mine.Internal
end
section
set_option backward.eqns.nonrecursive false
namespace Mine.Internal
open PySem PySem.Spec PyProof.Rows
noncomputable def tgtOk:Expr->Bool
 | .Name .. | .Tuple ..=>true
 | _=>false
structure Itr (A:Around) (P:Addr->Prop) (I:Addr) (tgt:Expr) (fp wr:List Addr) (ds:List PV) (S:Nat->Heap->Prop):Prop where
 sub:∀ b∈wr,b∈fp
 frame:∀ i h h',S i h->(∀ b∈fp,∀ o,h.get? b=some o->h'.get? b=some o)->Kp P h h'->S i h'
 rec_:∀ i h,S i h->∀ b∈wr,∃ o vs,h.get? b=some o/\o.data=.fields vs
 live:∀ i h,S i h->∀ b∈fp,∃ o,h.get? b=some o/\∀ v,o.data≠.cell v
 turn:∀ i (s:Shared) (Q:Value->Shared->Prop) (E:Value->Shared->Prop) d,ds[i]?=some d->S i s.heap ->
  (∀ v h' tk,S (i+1) h'->Rd h' P d v->(∀ b o,b∉wr->s.heap.get? b=some o->h'.get? b=some o)->Q v (up s (h') (tk))) ->
  wpAny (model prog w) A (pyNext (.ref I)) (fun r s₁=>∃ v,r=some v/\wpAny (model prog w) A (letOwnedTupleGo tgt (.ref I) v) (fun _ s₂=>Q v s₂) E s₁) E s
 done:∀ (s:Shared) (Q:Shared->Prop) (E:Value->Shared->Prop),S ds.length s.heap->(∀ h' tk,(∀ b o,b∉wr->s.heap.get? b=some o->h'.get? b=some o)->Q (up s (h') (tk))) ->
  wpAny (model prog w) A (pyNext (.ref I)) (fun r s₁=>r=none/\Q s₁) E s
 self:∀ i (s:Shared) (Q:Value->Shared->Prop) (E:Value->Shared->Prop),S i s.heap->Q (.ref I) s->wpAny (model prog w) A (pyIter (.ref I)) Q E s
section
variable {A:Around} {E:Value->Shared->Prop} {s:Shared} {P:Addr->Prop}
theorem letOwned_plain {M:Model} {tgt:Expr} {I:Addr} {o:Obj} {T:String} {v:Value} {Q:Unit->Shared->Prop} (ht:tgtOk tgt=true) (ho:s.heap.get? I=some o) (hc:o.cls=.type T)
  (hT:(["enumerate","zip","dict_itemiterator","dict_reverseitemiterator","odict_iterator","itertools.zip_longest","itertools.pairwise"]:List String).contains T=false) (h:Q () s):
  wpAny M A (letOwnedTupleGo tgt (.ref I) v) Q E s:=by
 cases tgt with
 | Name _ _=>exact wpAny_pure h
 | Tuple _ _ _=>
  cases v with
  | ref a=>
   show wpAny M A (load I >>= _) Q E s
   refine wpAny_bind (wpAny_load ho ?_)
   obtain ⟨c,d,dt,sl⟩:=o
   simp only at hc
   subst hc
   cases dt with
   | fields vs=>simp only [hT,Bool.false_and,Bool.false_eq_true,if_false];exact wpAny_pure h
   | _=>exact wpAny_pure h
  | _=>exact wpAny_pure h
 | _=>cases ht
theorem rds_get? {h:Heap} {l:List PV} {vs:Array Value} {i:Nat} {d:PV} (r:Rds h P l vs.toList) (e:l[i]?=some d):∃ v,vs[i]?=some v/\Rd h P d v:=by
 obtain ⟨v,h1,h2⟩:=r.get e
 exact ⟨v,by rw [<-Array.getElem?_toList];exact h1,h2⟩
theorem kp_wr {h h':Heap} {wr:List Addr} (hr:∀ b∈wr,∃ o vs,h.get? b=some o/\o.data=.fields vs) (k:∀ b o,b∉wr->h.get? b=some o->h'.get? b=some o):Kp P h h':=fun a o ho hm=>by
 refine k a o (fun hw=>?_) ho
 obtain ⟨o',vs,ho',hd⟩:=hr a hw
 rw [ho] at ho';cases ho'
 rcases hm with ⟨_,_,hd',_⟩ | ⟨_,_,hd',_⟩<;>(rw [hd] at hd';cases hd')
theorem itr_list (hh:A.handled=none) {tgt:Expr} (ht:tgtOk tgt=true) (I l:Addr) (hne:l≠I) (ds:List PV) (vs:Array Value) (n:Nat):
  Itr A P I tgt [I,l] [I] ds (fun i h=>h.IsListIter I l i/\h.get? l=some { cls:=.type "list",dict:=none,data:=.seq vs n,slots:=#[] }/\Rds h P ds vs.toList) where
 sub:=fun b hb=>by simp at hb;simp [hb]
 frame:=fun i h h' st hk kp=>⟨st.1.at fun o e=>hk I (by simp) o e,hk l (by simp) _ st.2.1,Rds.to kp ds st.2.2⟩
 rec_:=fun i h st b hb=>by
  simp only [List.mem_singleton] at hb;subst hb
  obtain ⟨o,ho,_,hd⟩:=st.1;exact ⟨o,_,ho,hd⟩
 live:=fun i h st b hb=>by
  simp only [List.mem_cons,List.not_mem_nil,or_false] at hb
  rcases hb with rfl | rfl
  ·obtain ⟨o,ho,_,hd⟩:=st.1;exact ⟨o,ho,fun v q=>by rw [hd] at q;cases q⟩
  ·exact ⟨_,st.2.1,fun v q=>by cases q⟩
 turn:=fun i s Q E d hd st hQ=>by
  obtain ⟨v,hv,hr⟩:=rds_get? st.2.2 hd
  refine wpAny_pyNext_list_item st.1 ⟨_,st.2.1,rfl,n,rfl⟩ hv fun h' hit hsb=>⟨v,rfl,?_⟩
  obtain ⟨o,ho,hc,hfd⟩:=hit
  have k:∀ b o,b∉[I]->s.heap.get? b=some o->h'.get? b=some o:=fun b o hb e=>hsb.extBut b o (by simpa using hb) e
  have kp:Kp P s.heap h':=kp_wr (wr:=[I]) (fun b hb=>by simp only [List.mem_singleton] at hb;subst hb;obtain ⟨o,ho,_,hd⟩:=st.1;exact ⟨o,_,ho,hd⟩) k
  exact letOwned_plain ht ho hc (by decide) (hQ v h' s.toks ⟨⟨o,ho,hc,hfd⟩,k l _ (by simpa using hne) st.2.1,Rds.to kp ds st.2.2⟩ (Rd.to kp d hr) k)
 done:=fun s Q E st hQ=>by
  refine wpAny_pyNext_list_end hh st.1 ⟨_,st.2.1,rfl,n,rfl⟩ ?_ fun h' hx=>⟨rfl,hQ h' s.toks fun b o hb e=>hx b o (by simpa using hb) e⟩
  have:=st.2.2.length
  rw [Array.length_toList] at this
  simp [this]
 self:=fun i s Q E st hQ=>wpAny_pyIter_listiter st.1 hQ
theorem itr_tuple (hh:A.handled=none) {tgt:Expr} (ht:tgtOk tgt=true) (I l:Addr) (hne:l≠I) (ds:List PV) (vs:Array Value) (n:Nat):
  Itr A P I tgt [I,l] [I] ds (fun i h=>h.IsTupleIter I l i/\h.get? l=some { cls:=.type "tuple",dict:=none,data:=.seq vs n,slots:=#[] }/\Rds h P ds vs.toList) where
 sub:=fun b hb=>by simp at hb;simp [hb]
 frame:=fun i h h' st hk kp=>⟨st.1.at fun o e=>hk I (by simp) o e,hk l (by simp) _ st.2.1,Rds.to kp ds st.2.2⟩
 rec_:=fun i h st b hb=>by
  simp only [List.mem_singleton] at hb;subst hb
  obtain ⟨o,ho,_,hd⟩:=st.1;exact ⟨o,_,ho,hd⟩
 live:=fun i h st b hb=>by
  simp only [List.mem_cons,List.not_mem_nil,or_false] at hb
  rcases hb with rfl | rfl
  ·obtain ⟨o,ho,_,hd⟩:=st.1;exact ⟨o,ho,fun v q=>by rw [hd] at q;cases q⟩
  ·exact ⟨_,st.2.1,fun v q=>by cases q⟩
 turn:=fun i s Q E d hd st hQ=>by
  obtain ⟨v,hv,hr⟩:=rds_get? st.2.2 hd
  refine wpAny_pyNext_tuple_item st.1 ⟨_,st.2.1,rfl,n,rfl⟩ hv fun h' hit hsb=>⟨v,rfl,?_⟩
  obtain ⟨o,ho,hc,hfd⟩:=hit
  have k:∀ b o,b∉[I]->s.heap.get? b=some o->h'.get? b=some o:=fun b o hb e=>hsb.extBut b o (by simpa using hb) e
  have kp:Kp P s.heap h':=kp_wr (wr:=[I]) (fun b hb=>by simp only [List.mem_singleton] at hb;subst hb;obtain ⟨o,ho,_,hd⟩:=st.1;exact ⟨o,_,ho,hd⟩) k
  exact letOwned_plain ht ho hc (by decide) (hQ v h' s.toks ⟨⟨o,ho,hc,hfd⟩,k l _ (by simpa using hne) st.2.1,Rds.to kp ds st.2.2⟩ (Rd.to kp d hr) k)
 done:=fun s Q E st hQ=>by
  refine wpAny_pyNext_tuple_end hh st.1 ⟨_,st.2.1,rfl,n,rfl⟩ ?_ fun h' hx=>⟨rfl,hQ h' s.toks fun b o hb e=>hx b o (by simpa using hb) e⟩
  have:=st.2.2.length
  rw [Array.length_toList] at this
  simp [this]
 self:=fun i s Q E st hQ=>wpAny_pyIter_tupleiter st.1 hQ
theorem upto_get {a b:Int} {i:Nat} {d:PV} (h:(upto a b)[i]?=some d):i < (b-a).toNat/\d=.int (a+i):=by
 unfold upto at h
 rw [List.getElem?_map] at h
 cases q:(List.range (b-a).toNat)[i]? with
 | none=>rw [q] at h;cases h
 | some j=>
  rw [q] at h
  obtain ⟨h1,h2⟩:=List.getElem?_eq_some_iff.mp q
  simp only [List.getElem_range] at h2
  simp only [List.length_range] at h1
  subst h2
  cases h
  exact ⟨h1,rfl⟩
theorem upto_length (a b:Int):(upto a b).length=(b-a).toNat:=by simp [upto]
theorem itr_range (hh:A.handled=none) {tgt:Expr} (ht:tgtOk tgt=true) (I:Addr) (a b:Int) (hab:a<=b):
  Itr A P I tgt [I] [I] (upto a b) (fun i h=>IsRangeIter h I (a+i) (b-a-i) 1) where
 sub:=fun b hb=>hb
 frame:=fun i h h' st hk kp=>hk I (by simp) _ st
 rec_:=fun i h st b hb=>by
  simp only [List.mem_singleton] at hb;subst hb;exact ⟨_,_,st,rfl⟩
 live:=fun i h st b hb=>by
  simp only [List.mem_singleton] at hb;subst hb;exact ⟨_,st,fun v q=>by cases q⟩
 turn:=fun i s Q E d hd st hQ=>by
  obtain ⟨h1,rfl⟩:=upto_get hd
  refine wpAny_pyNext_range_item st (by exact v27 h1) fun h' hit hsb=>⟨_,rfl,?_⟩
  have e1:a+(i:Int)+1=a+((i+1:Nat):Int):=by exact o315
  have e2:b-a-(i:Int)-1=b-a-((i+1:Nat):Int):=by exact o316
  refine letOwned_plain ht hit rfl (by decide) (hQ _ h' _ (by rw [<-e1,<-e2];exact hit) ⟨_,rfl⟩ fun b o hb e=>hsb.extBut b o (by simpa using hb) e)
 done:=fun s Q E st hQ=>by
  rw [upto_length] at st
  exact wpAny_pyNext_range_end hh st (by exact v28) fun h' hx=>⟨rfl,hQ h' s.toks fun b o hb e=>hx b o (by simpa using hb) e⟩
 self:=fun i s Q E st hQ=>wpAny_pyIter_rangeiter st hQ
theorem itr_ents (hh:A.handled=none) {tgt:Expr} (ht:tgtOk tgt=true) (I l:Addr) (hne:l≠I) (ds:List PV) (od:Obj) (es:Array DictEntry) (ep:Nat) (hdd:od.data=.dict es ep):
  Itr A P I tgt [I,l] [I] ds (fun i h=>h.IsKeyIter I l i es.size ep/\h.get? l=some od/\Rds h P ds (es.toList.map (·.key))) where
 sub:=fun b hb=>by simp at hb;simp [hb]
 frame:=fun i h h' st hk kp=>⟨st.1.at fun o e=>hk I (by simp) o e,hk l (by simp) _ st.2.1,Rds.to kp ds st.2.2⟩
 rec_:=fun i h st b hb=>by
  simp only [List.mem_singleton] at hb;subst hb
  obtain ⟨o,ho,_,hd⟩:=st.1;exact ⟨o,_,ho,hd⟩
 live:=fun i h st b hb=>by
  simp only [List.mem_cons,List.not_mem_nil,or_false] at hb
  rcases hb with rfl | rfl
  ·obtain ⟨o,ho,_,hd⟩:=st.1;exact ⟨o,ho,fun v q=>by rw [hd] at q;cases q⟩
  ·exact ⟨_,st.2.1,fun v q=>by rw [hdd] at q;cases q⟩
 turn:=fun i s Q E d hd st hQ=>by
  obtain ⟨v,hv,hr⟩:=st.2.2.get hd
  have hi:i < es.size:=by
   have:=(List.getElem?_eq_some_iff.mp hv).1
   rwa [List.length_map,Array.length_toList] at this
  have hvk:v=es[i].key:=by
   rw [List.getElem?_map,Array.getElem?_toList,Array.getElem?_eq_getElem hi] at hv
   exact (Option.some.inj hv).symm
  subst hvk
  refine next_ents hh st.1 st.2.1 hdd (fun _ h' hit hsb=>⟨_,rfl,?_⟩) fun q=>absurd hi q
  obtain ⟨o,ho,hc,hfd⟩:=id hit
  have k:∀ b o,b∉[I]->s.heap.get? b=some o->h'.get? b=some o:=fun b o hb e=>hsb.extBut b o (by simpa using hb) e
  have kp:Kp P s.heap h':=kp_wr (wr:=[I]) (fun b hb=>by simp only [List.mem_singleton] at hb;subst hb;obtain ⟨o,ho,_,hd⟩:=st.1;exact ⟨o,_,ho,hd⟩) k
  exact letOwned_plain ht ho hc (by decide) (hQ _ h' s.toks ⟨hit,k l _ (by simpa using hne) st.2.1,Rds.to kp ds st.2.2⟩ (Rd.to kp d hr) k)
 done:=fun s Q E st hQ=>by
  have hl:=st.2.2.length
  rw [List.length_map,Array.length_toList] at hl
  exact next_ents hh st.1 st.2.1 hdd (fun q=>absurd q (by rw [hl];exact Nat.lt_irrefl _)) fun _ h' hx=>⟨rfl,hQ h' s.toks fun b o hb e=>hx b o (by simpa using hb) e⟩
 self:=fun i s Q E st hQ=>wpAny_pyIter_keyiter st.1 hQ
end
end Mine.Internal
end
section
namespace Mine.Internal
open PySem PySem.Spec PyProof.Rows
section
variable {A:Around} {E:Value->Shared->Prop} {s:Shared} {P:Addr->Prop}
theorem enum_get {l:List PV} {i:Nat} {d:PV} (h:(l.zipIdx.map fun p=>PV.tuple [.int p.2,p.1])[i]?=some d):∃ x,l[i]?=some x/\d=.tuple [.int i,x]:=by
 rw [List.getElem?_map,List.getElem?_zipIdx] at h
 cases q:l[i]? with
 | none=>rw [q] at h;cases h
 | some x=>rw [q] at h;cases h;exact ⟨x,rfl,by simp⟩
theorem itr_enum {elts:List Expr} {k:Nat} {pos:Pos} (e it:Addr) (hei:e≠it) {fp:List Addr} (hef:e∉fp) (hif:it∈fp) {vs:Array Value} {ds:List PV} {S:Nat->Heap->Prop}
  (hD:Draws prog w A.in1 it fp vs.size (fun i v=>vs[i]?=some v) S) (hrec:∀ i h,S i h->∃ o fs,h.get? it=some o/\o.data=.fields fs) (hlive:∀ i h,S i h->∀ b∈fp,∃ o,h.get? b=some o/\∀ v,o.data≠.cell v):
  Itr A P e (.Tuple elts k pos) (e::fp) [e,it] (ds.zipIdx.map fun p=>PV.tuple [.int p.2,p.1]) (fun i h=>(∃ old,IsEnum h e it i old)/\S i h/\Rds h P ds vs.toList) where
 sub:=fun b hb=>by
  simp only [List.mem_cons,List.not_mem_nil,or_false] at hb
  rcases hb with rfl | rfl
  ·simp
  ·exact List.mem_cons_of_mem _ hif
 frame:=fun i h h' st hk kp=>⟨let ⟨old,ho⟩:=st.1;⟨old,hk e (by simp) _ ho⟩,hD.frame _ _ _ st.2.1 fun b hb o q=>hk b (List.mem_cons_of_mem _ hb) o q,Rds.to kp ds st.2.2⟩
 rec_:=fun i h st b hb=>by
  simp only [List.mem_cons,List.not_mem_nil,or_false] at hb
  rcases hb with rfl | rfl
  ·obtain ⟨old,ho⟩:=st.1;exact ⟨_,_,ho,rfl⟩
  ·exact hrec i h st.2.1
 live:=fun i h st b hb=>by
  rcases List.mem_cons.mp hb with rfl | hb
  ·obtain ⟨old,ho⟩:=st.1;exact ⟨_,ho,fun v q=>by cases q⟩
  ·exact hlive i h st.2.1 b hb
 turn:=fun i s Q E d hd st hQ=>by
  obtain ⟨x,hx,rfl⟩:=enum_get hd
  obtain ⟨v,hv,hr⟩:=rds_get? st.2.2 hx
  obtain ⟨old,he⟩:=st.1
  have hi:i < vs.size:=(Array.getElem?_eq_some_iff.mp hv).1
  refine wpAny_pyNext_enum_itemD hD he st.2.1 hi hei hef fun x' h' tk hP hout hS hT hsz hk=>⟨_,rfl,?_⟩
  have hP':v=x':=Option.some.inj (hv.symm.trans hP)
  subst hP'
  obtain ⟨oi,fi,hoi,hdi⟩:=hrec i _ st.2.1
  refine wpAny_letOwnedTupleGo_enum hout fun h₂ he₂ hs₂=>?_
  have helt:e < s.heap.objs.size:=Heap.lt_size he
  have k:∀ b o,b∉[e,it]->s.heap.get? b=some o->h₂.get? b=some o:=fun b o hb q=>by
   simp only [List.mem_cons,List.not_mem_nil,or_false,not_or] at hb
   exact hs₂.extBut b o hb.1 (hk b o hb.1 hb.2 q)
  have kp:Kp P s.heap h₂:=kp_wr (wr:=[e,it]) (fun b hb=>by
   simp only [List.mem_cons,List.not_mem_nil,or_false] at hb
   rcases hb with rfl | rfl
   ·exact ⟨_,_,he,rfl⟩
   ·exact ⟨oi,fi,hoi,hdi⟩) k
  refine hQ _ h₂ _ ⟨⟨v,by simpa using he₂⟩,hD.frame _ _ _ hS fun b hb o q=>hs₂.extBut b o (fun z=>hef (z ▸ hb)) q,Rds.to kp ds st.2.2⟩ ?_ k
  exact ⟨_,#[.int i tk,v],rfl,⟨0,hs₂.extBut _ _ (Nat.ne_of_gt helt) hT⟩,(by show 2<=lim;decide),⟨.int i tk,[v],rfl,⟨tk,rfl⟩,v,[],rfl,Rd.to kp x hr,rfl⟩⟩
 done:=fun s Q E st hQ=>by
  obtain ⟨old,he⟩:=st.1
  have hl:(ds.zipIdx.map fun p=>PV.tuple [.int p.2,p.1]).length=vs.size:=by
   rw [List.length_map,List.length_zipIdx,<-st.2.2.length,Array.length_toList]
  have hS:=st.2.1
  rw [hl] at hS
  exact wpAny_pyNext_enum_endD hD he hS fun h' hx=>⟨rfl,hQ h' s.toks fun b o hb q=>hx b o (fun z=>hb (by simp [z])) q⟩
 self:=fun i s Q E st hQ=>by
  obtain ⟨old,he⟩:=st.1
  exact wpAny_pyIter_enum he hQ
end
end Mine.Internal
end
section
namespace Mine.Internal
open PySem PySem.Spec PyProof.Rows
noncomputable def Stay (own:Addr->Option Nat) (h:Heap) (b:Addr):Prop:=own b=none\/∃ o vs n,h.get? b=some o/\o.cls=.type "tuple" /\ o.data=.seq vs n
inductive ItPost (f:Fix) (own:Addr->Option Nat) (tgt:Expr) (cl:Cl) (R:Res (List PV)) (s:Shared) (it:Value) (s₂:Shared):Prop where
 | mk (ds:List PV) (I:Addr) (fp wr:List Addr) (S:Nat->Heap->Prop) (e:R=.ok ds) (ei:it=.ref I) (hi:Itr f.c.A (fun a=>Fz f.c own a/\∃ o,s₂.heap.get? a=some o) I tgt fp wr ds S) (h0:S 0 s₂.heap) (g:Grow f.c.A s s₂) (hw:∀ b∈wr,s.heap.get? b=none) (hf:cl.inner=true->∀ b∈fp,Stay own s₂.heap b) (ln:ds.length<=lim) (hl:∀ b∈fp,b∉frs f.c.A/\b≠f.c.env.locals)
section
variable {f:Fix} {cf:Nat->List PV->Res PV} {own:Addr->Option Nat} {ρ:Slots} {s:Shared} {e:Expr} {p:PE} {k:Cl}
theorem St.notFr {c:Cx} (x:St c own ρ s) {b:Addr} {o:Obj} (ho:s.heap.get? b=some o) (hd:∀ es n,o.data≠.dict es n):b∉frs c.A/\b≠c.env.locals:=by
 refine ⟨fun hb=>?_,fun hb=>?_⟩
 ·obtain ⟨_,m,o',es,ep,ho',hd',_⟩:=x.fr b hb
  rw [ho] at ho';cases ho';exact hd _ _ hd'
 ·obtain ⟨_,m,o',es,ep,ho',hd',_⟩:=x.loc
  rw [<-hb,ho] at ho';cases ho';exact hd _ _ hd'
theorem St.notFrNew {c:Cx} (x:St c own ρ s) {b:Addr} (ho:s.heap.get? b=none):b∉frs c.A/\b≠c.env.locals:=by
 refine ⟨fun hb=>?_,fun hb=>?_⟩
 ·obtain ⟨_,m,o',es,ep,ho',hd',_⟩:=x.fr b hb
  rw [ho] at ho';cases ho'
 ·obtain ⟨_,m,o',es,ep,ho',hd',_⟩:=x.loc
  rw [<-hb,ho] at ho';cases ho'
theorem St.notFrOwn {c:Cx} (x:St c own ρ s) {b:Addr} (ho:own b≠some dum):b∉frs c.A/\b≠c.env.locals:=
 ⟨fun hb=>ho (x.fr b hb).1,fun hb=>ho (hb ▸ x.loc.1)⟩
theorem seq_itr (F:FixOk f) {tgt:Expr} (ht:tgtOk tgt=true) {d:PV} {v:Value} {s₀:Shared} (x0:St f.c own ρ s₀) (g0:Grow f.c.A s₀ s) (x:St f.c own ρ s) (htop:k.top=true) (r:RdC f.c own s₀.heap s.heap k d v) (hn:items .seq [d]≠.stuck) {E:Value->Shared->Prop}:
  wpAny (model prog w) f.c.A (pyIter v) (fun it s₂=>ItPost f own tgt k (items .seq [d]) s₀ it s₂) E s:=by
 have hne:=newSize s.heap
 have ownk:k.inner=true->∀ {a:Addr},(∃ l,d=.list l)\/(∃ l,d=.dict l)->v=.ref a->own a=none:=fun hk a hd hv=>by
  have rr:=r.rd x0 hk
  rcases hd with ⟨l,rfl⟩ | ⟨l,rfl⟩
  ·obtain ⟨a',_,e1,p,_⟩:=rr;rw [e1] at hv;cases hv;exact p.2
  ·obtain ⟨a',_,e1,p,_⟩:=rr;rw [e1] at hv;cases hv;exact p.2
 have tp:=r.tp x0 htop
 have new0:s₀.heap.get? s.heap.objs.size=none:=g0.h.none hne
 cases d with
 | list l=>
  obtain ⟨a,vs,rfl,ho,⟨n,hl⟩,hlen,hr⟩:=tp
  refine wpAny_pyIter_list ⟨_,hl,rfl,n,rfl⟩ ?_
  refine ⟨l,_,_,_,_,rfl,rfl,itr_list F.ok.handled ht s.heap.objs.size a (Nat.ne_of_lt (Heap.lt_size hl)) l vs n,⟨⟨_,Heap.get?_push_size _ rfl,rfl,rfl⟩,Heap.get?_push_of_some _ hl,Rds.imp (fun b o hb _ p=>⟨p,o,hb⟩) l (Rds.to (fun b o hb _=>Heap.get?_push_of_some _ hb) l hr)⟩,g0.trans (Grow.push _ _ _),?_,fun hk b hb=>?_,hlen,fun b hb=>?_⟩
  ·intro b hb;simp only [List.mem_singleton] at hb;rw [hb];exact new0
  ·simp only [List.mem_cons,List.not_mem_nil,or_false] at hb
   rcases hb with rfl | rfl
   ·exact .inl (x.newOwn hne)
   ·exact .inl (ownk hk (.inl ⟨l,rfl⟩) rfl)
  ·simp only [List.mem_cons,List.not_mem_nil,or_false] at hb
   rcases hb with rfl | rfl
   ·exact x.notFrNew hne
   ·exact x.notFr hl fun es n q=>by cases q
 | tuple l=>
  obtain ⟨a,vs,rfl,⟨n,hl⟩,hlen,hr⟩:=tp
  refine wpAny_pyIter_tuple ⟨_,hl,rfl,n,rfl⟩ ?_
  refine ⟨l,_,_,_,_,rfl,rfl,itr_tuple F.ok.handled ht s.heap.objs.size a (Nat.ne_of_lt (Heap.lt_size hl)) l vs n,⟨⟨_,Heap.get?_push_size _ rfl,rfl,rfl⟩,Heap.get?_push_of_some _ hl,Rds.imp (fun b o hb _ p=>⟨p,o,hb⟩) l (Rds.to (fun b o hb _=>Heap.get?_push_of_some _ hb) l hr)⟩,g0.trans (Grow.push _ _ _),?_,fun hk b hb=>?_,hlen,fun b hb=>?_⟩
  ·intro b hb;simp only [List.mem_singleton] at hb;rw [hb];exact new0
  ·simp only [List.mem_cons,List.not_mem_nil,or_false] at hb
   rcases hb with rfl | rfl
   ·exact .inl (x.newOwn hne)
   ·exact .inr ⟨_,_,_,Heap.get?_push_of_some _ hl,rfl,rfl⟩
  ·simp only [List.mem_cons,List.not_mem_nil,or_false] at hb
   rcases hb with rfl | rfl
   ·exact x.notFrNew hne
   ·exact x.notFr hl fun es n q=>by cases q
 | dict l=>
  obtain ⟨a,vs,rfl,ho,n1,hlen,q,hr⟩:=tp
  simp only [items,l1,seqI] at hn ⊢
  split at hn
  ·rename_i hf
   rw [if_pos hf]
   obtain ⟨o,es,ep,hm,hc,hd,hks⟩:=q.ents hf
   refine iter_ents (sysNe n1) hm hc hd ?_
   refine ⟨_,_,_,_,_,rfl,rfl,itr_ents F.ok.handled ht s.heap.objs.size a (Nat.ne_of_lt (Heap.lt_size hm)) (l.map fun p=>p.1.pv) o es ep hd,⟨⟨_,Heap.get?_push_size _ rfl,rfl,rfl⟩,Heap.get?_push_of_some _ hm,Rds.to (fun b o hb _=>Heap.get?_push_of_some _ hb) _ (hks _)⟩,g0.trans (Grow.push _ _ _),?_,fun hk b hb=>?_,?_,fun b hb=>?_⟩
   ·intro b hb;simp only [List.mem_singleton] at hb;rw [hb];exact new0
   ·simp only [List.mem_cons,List.not_mem_nil,or_false] at hb
    rcases hb with rfl | rfl
    ·exact .inl (x.newOwn hne)
    ·exact .inl (ownk hk (.inr ⟨l,rfl⟩) rfl)
   ·rw [List.length_map];exact hlen
   ·simp only [List.mem_cons,List.not_mem_nil,or_false] at hb
    rcases hb with rfl | rfl
    ·exact x.notFrNew hne
    ·exact x.notFrOwn ho
  ·exact absurd rfl hn
 | none=>exact absurd rfl hn
 | bool _=>exact absurd rfl hn
 | int _=>exact absurd rfl hn
theorem range_itr (F:FixOk f) {tgt:Expr} (ht:tgtOk tgt=true) {a b:Int} {t u v:Tok} {tk:Nat} {s₀:Shared} (x0:St f.c own ρ s₀) (g0:Grow f.c.A s₀ s) (x:St f.c own ρ s) (h0:0<=a) (hab:a<=b) (hb:b<=16777216) {R:Res (List PV)} (hR:R=.ok (upto a b)) {E:Value->Shared->Prop}:
  wpAny (model prog w) f.c.A (pyIter (.ref s.heap.objs.size)) (fun it s₂=>ItPost f own tgt .safe R s₀ it s₂) E { s with heap:=s.heap.push { cls:=.type "range",data:=.fields #[.int a t,.int b u,.int 1 v] },toks:=tk }:=by
 have g1:Grow f.c.A s { s with heap:=s.heap.push { cls:=.type "range",data:=.fields #[.int a t,.int b u,.int 1 v] },toks:=tk }:=Grow.push _ _ _
 have x1:=x.grow F.ok g1
 refine wpAny_pyIter_range (Heap.get?_push_size _ rfl) (PySem.small_one (neg62 h0) (big62 (n:=16777216) (Int.le_trans hab hb) (Nat.le_refl _)) (neg62 (Int.le_trans h0 hab)) (big62 (n:=16777216) hb (Nat.le_refl _))) ?_
 have hne:=newSize (s.heap.push { cls:=.type "range",data:=.fields #[.int a t,.int b u,.int 1 v] })
 refine ⟨upto a b,_,_,_,_,hR,rfl,itr_range F.ok.handled ht _ a b hab,?_,(g0.trans g1).trans (Grow.push _ _ _),fun b' hb'=>?_,fun _ b' hb'=>?_,by rw [upto_length];unfold lim;exact v31 h0 hb,fun b' hb'=>?_⟩
 ·have:=Heap.get?_push_size (s.heap.push { cls:=.type "range",data:=.fields #[.int a t,.int b u,.int 1 v] }) (o:={ cls:=.type "range_iterator",data:=.fields #[rawInt a,rawInt (Builtin.Range.rangeSize a b 1),rawInt 1] }) rfl
  rw [size_two hab] at this
  simpa [IsRangeIter,size_two hab] using this
 ·simp only [List.mem_singleton] at hb';rw [hb'];exact (g0.trans g1).h.none hne
 ·simp only [List.mem_singleton] at hb';rw [hb'];exact .inl (x1.newOwn hne)
 ·simp only [List.mem_singleton] at hb';rw [hb'];exact x1.notFrNew hne
theorem enum_itr (F:FixOk f) {elts:List Expr} {kd:Nat} {tp:Pos} {d:PV} {v:Value} {s₀:Shared} (x0:St f.c own ρ s₀) (g0:Grow f.c.A s₀ s) (x:St f.c own ρ s) (htop:k.top=true) (r:RdC f.c own s₀.heap s.heap k d v) (hn:items .enum [d]≠.stuck) {E:Value->Shared->Prop}:
  wpAny (model prog w) f.c.A (call (.type "enumerate") [v]) (fun xv s₁=>wpAny (model prog w) f.c.A (pyIter xv) (fun it s₂=>ItPost f own (.Tuple elts kd tp) k (items .enum [d]) s₀ it s₂) E s₁) E s:=by
 have hne:=newSize s.heap
 have hne1:s.heap.get? (s.heap.objs.size+1)=none:=by
  cases q:s.heap.get? (s.heap.objs.size+1) with
  | none=>rfl
  | some o=>exact absurd (Heap.lt_size q) (Nat.not_lt.mpr (Nat.le_succ _))
 have tp:=r.tp x0 htop
 cases d with
 | tuple l=>
  obtain ⟨a,vs,rfl,⟨n,hl⟩,hlen,hr⟩:=tp
  have hla:=Heap.lt_size hl
  refine call_enumerate_tuple hl fun h' he hit hsz hk=>?_
  refine wpAny_pyIter_enum he ?_
  refine ⟨_,_,_,_,_,rfl,rfl,itr_enum (P:=fun a=>Fz f.c own a/\∃ o,h'.get? a=some o) (ds:=l) (s.heap.objs.size+1) s.heap.objs.size (Nat.succ_ne_self _) (fp:=[s.heap.objs.size,a]) ?_ (by simp) (drawsTuple (A:=f.c.A.in1) F.ok.handled s.heap.objs.size a (Nat.ne_of_lt hla) vs) (fun i h st=>?_) (fun i h st b hb=>?_),
   ⟨⟨.none,he⟩,⟨hit,⟨_,hk a _ hl,rfl,n,rfl⟩⟩,Rds.imp (fun b o hb _ p=>⟨p,o,hb⟩) l (Rds.to (fun b o hb _=>hk b o hb) l hr)⟩,g0.trans ⟨h',s.toks,rfl,.of_keeps hk⟩,fun b hb=>?_,fun hk' b hb=>?_,?_,fun b hb=>?_⟩
  ·simp only [List.mem_cons,List.not_mem_nil,or_false,not_or];exact ⟨Nat.succ_ne_self _,Nat.ne_of_gt (Nat.lt_succ_of_lt hla)⟩
  ·obtain ⟨o,ho,_,hd⟩:=st.1;exact ⟨o,_,ho,hd⟩
  ·simp only [List.mem_cons,List.not_mem_nil,or_false] at hb
   rcases hb with rfl | rfl
   ·obtain ⟨o,ho,_,hd⟩:=st.1;exact ⟨o,ho,fun v q=>by rw [hd] at q;cases q⟩
   ·obtain ⟨o,ho,_,n,hd⟩:=st.2;exact ⟨o,ho,fun v q=>by rw [hd] at q;cases q⟩
  ·simp only [List.mem_cons,List.not_mem_nil,or_false] at hb
   rcases hb with rfl | rfl
   ·exact g0.h.none hne1
   ·exact g0.h.none hne
  ·simp only [List.mem_cons,List.not_mem_nil,or_false] at hb
   rcases hb with rfl | rfl | rfl
   ·exact .inl (x.newOwn hne1)
   ·exact .inl (x.newOwn hne)
   ·exact .inr ⟨_,_,_,hk _ _ hl,rfl,rfl⟩
  ·rw [List.length_map,List.length_zipIdx];exact hlen
  ·simp only [List.mem_cons,List.not_mem_nil,or_false] at hb
   rcases hb with rfl | rfl | rfl
   ·exact x.notFrNew hne1
   ·exact x.notFrNew hne
   ·exact x.notFr hl fun es n q=>by cases q
 | _=>exact absurd rfl hn
noncomputable def ItOK (f:Fix) (cf:Nat->List PV->Res PV) (tup:Bool) (iter:Expr) (kk:ItK) (src:List PE) (cl:Cl):Prop:=
 (∀ env x,foldedSetIterable iter env x=pure x)/\∀ {own:Addr->Option Nat} {ρ:Slots} {s:Shared} {tgt:Expr},(tup=true->∃ elts k pos,tgt=.Tuple elts k pos)->tgtOk tgt=true->St f.c own ρ s->((evs cf ρ src).bind (items kk))≠.stuck ->
  wpAny (model prog w) f.c.A (eval iter f.c.env) (fun xv s₁=>wpAny (model prog w) f.c.A (pyIter xv) (fun it s₂=>ItPost f own tgt cl ((evs cf ρ src).bind (items kk)) s it s₂) (fun _ _=>False) s₁)
   (fun _ _=>False) s
theorem evs1 {a:PE} {k:ItK}:((evs cf ρ [a]).bind (items k))=(ev cf ρ a).bind fun d=>items k [d]:=by simp only [evsN,evsC];cases ev cf ρ a<;>rfl
theorem it_seq (F:FixOk f) {iter:Expr} {tup:Bool} {a:PE×Cl} (hs:∀ env x,foldedSetIterable iter env x=pure x) (ha:EvOK f cf iter a.1 a.2) (hta:a.2.top=true):ItOK f cf tup iter .seq [a.1] a.2:=by
 refine ⟨hs,fun htup ht x hn=>?_⟩
 rw [evs1] at hn ⊢
 refine ha.use F x hn fun d v s₁ e1 e2 hn1 g1 x1 r1=>?_
 rw [e2]
 exact seq_itr F ht x g1 x1 hta r1 hn1
theorem it_range (F:FixOk f) {g:Str} {gp pos:Pos} {e:Expr} {tup:Bool} {a:PE×Cl} (hb:f.t.bi g "range" = true) (hsa:starred e=false) (ha:EvOK f cf e a.1 a.2):ItOK f cf tup (.Call (.Name g gp) [e] [] pos) .range1 [a.1] .safe:=by
 refine ⟨fun _ _=>rfl,fun htup ht x hn=>?_⟩
 obtain ⟨rfl,hb⟩:=bi_eq hb
 simp only [TC.bi,Bool.and_eq_true,Option.isNone_iff_eq_none] at hb
 rw [evs1] at hn ⊢
 refine wpAny_Call_NameR (wpAny_Name (loadBi F x hb.1.1 hb.1.2 (v:=.type "range") (by decide +kernel) ?_) (by decide +kernel))
 refine PySem.callWith_type (backTo_plain (by simp [hsa])) (evalArgs_list (by simp [hsa]) (by simp) (wpAny_items_cons ?_ (starEach_plain hsa)))
 refine ha.use F x hn fun d v s₁ e1 e2 hn1 g1 x1 r1=>wpAny_items_nil ?_
 rw [e2]
 cases d with
 | int i=>
  obtain ⟨t,rfl⟩:=part_int r1
  simp only [items,l1,rangeI] at hn1 ⊢
  by_cases hc:(decide (0<=i)&&decide (i<=(lim:Nat)))=true
  ·rw [if_pos hc]
   simp only [Bool.and_eq_true,decide_eq_true_eq] at hc
   exact call_range_1 (range_itr F ht x g1 x1 (Int.le_refl 0) hc.1 (by have:=hc.2;unfold lim at this;exact o323 this) rfl)
  ·rw [if_neg hc] at hn1;exact absurd rfl hn1
 | _=>exact absurd rfl hn1
theorem evs2 {a b:PE} {k:ItK}:((evs cf ρ [a,b]).bind (items k))=(ev cf ρ a).bind fun d=>(ev cf ρ b).bind fun d'=>items k [d,d']:=by
 rw [evsC,evsC,evsN];cases ev cf ρ a<;>cases ev cf ρ b<;>rfl
theorem it_range2 (F:FixOk f) {g:Str} {gp pos:Pos} {e e':Expr} {tup:Bool} {a b:PE×Cl} (hb:f.t.bi g "range" = true) (hsa:starred e=false) (hsb:starred e'=false) (ha:EvOK f cf e a.1 a.2) (hb':EvOK f cf e' b.1 b.2):ItOK f cf tup (.Call (.Name g gp) [e,e'] [] pos) .range2 [a.1,b.1] .safe:=by
 refine ⟨fun _ _=>rfl,fun htup ht x hn=>?_⟩
 obtain ⟨rfl,hb⟩:=bi_eq hb
 simp only [TC.bi,Bool.and_eq_true,Option.isNone_iff_eq_none] at hb
 rw [evs2] at hn ⊢
 refine wpAny_Call_NameR (wpAny_Name (loadBi F x hb.1.1 hb.1.2 (v:=.type "range") (by decide +kernel) ?_) (by decide +kernel))
 refine PySem.callWith_type (backTo_plain (by simp [hsa,hsb])) (evalArgs_list (by simp [hsa,hsb]) (by simp) (wpAny_items_cons ?_ (starEach_plain hsa)))
 refine ha.use F x hn fun d v s₁ e1 e2 hn1 g1 x1 r1=>?_
 rw [e2]
 refine wpAny_items_cons (hb'.use F x1 hn1 fun d' v' s₂ e3 e4 hn2 g2 x2 r2=>wpAny_items_nil ?_) (starEach_plain hsb)
 rw [e4]
 cases d with
 | int i=>
  cases d' with
  | int j=>
   obtain ⟨t,rfl⟩:=part_int r1
   obtain ⟨t',rfl⟩:=part_int r2
   rw [itR2] at hn2 ⊢
   by_cases hc:(decide (0<=i)&&decide (i<=j)&&decide (j<=(lim:Nat)))=true
   ·rw [if_pos hc]
    simp only [Bool.and_eq_true,decide_eq_true_eq] at hc
    exact call_range_2 (range_itr F ht x (g1.trans g2) x2 hc.1.1 hc.1.2 (by have:=hc.2;unfold lim at this;exact u23 this) rfl)
   ·rw [if_neg hc] at hn2;exact absurd rfl hn2
  | _=>exact absurd rfl hn2
 | _=>cases d'<;>exact absurd rfl hn2
theorem it_enum (F:FixOk f) {g:Str} {gp pos:Pos} {e:Expr} {a:PE×Cl} (hb:f.t.bi g "enumerate" = true) (hsa:starred e=false) (ha:EvOK f cf e a.1 a.2) (hta:a.2.top=true):ItOK f cf true (.Call (.Name g gp) [e] [] pos) .enum [a.1] a.2:=by
 refine ⟨fun _ _=>rfl,fun htup ht x hn=>?_⟩
 obtain ⟨rfl,hb⟩:=bi_eq hb
 simp only [TC.bi,Bool.and_eq_true,Option.isNone_iff_eq_none] at hb
 obtain ⟨elts,kd,tpos,rfl⟩:=htup rfl
 rw [evs1] at hn ⊢
 refine wpAny_Call_NameR (wpAny_Name (loadBi F x hb.1.1 hb.1.2 (v:=.type "enumerate") (by decide +kernel) ?_) (by decide +kernel))
 refine PySem.callWith_type (backTo_plain (by simp [hsa])) (evalArgs_list (by simp [hsa]) (by simp) (wpAny_items_cons ?_ (starEach_plain hsa)))
 refine ha.use F x hn fun d v s₁ e1 e2 hn1 g1 x1 r1=>wpAny_items_nil ?_
 rw [e2]
 exact enum_itr F x g1 x1 hta r1 hn1
end
end Mine.Internal
end
section
set_option backward.eqns.nonrecursive false
namespace Mine.Internal
open PySem PySem.Spec PyProof.Rows
noncomputable def Names (c:Cx) (b:Addr):Prop:=b=c.env.locals\/∃ n,c.env.cells.lookup n=some b
noncomputable def PlaceOf (c:Cx) (y:Str) (b:Addr):Prop:=(c.env.kindOf y=some .local/\b=c.env.locals)\/(c.env.kindOf y=some .cell/\c.env.cells.lookup y=some b)
theorem PlaceOf.names {c:Cx} {y:Str} {b:Addr}:PlaceOf c y b->Names c b
 | .inl h=>.inl h.2
 | .inr h=>.inr ⟨y,h.2⟩
inductive Stored (N:Addr->Prop) (s s':Shared):Prop where
 | mk (h':Heap) (tk:Nat) (e:s'=(up s (h') (tk))) (k:∀ b o,s.heap.get? b=some o->¬ N b->h'.get? b=some o)
theorem mem_of_lookup {α:Type}:∀ {l:List (Str×α)} {x:Str} {a:α},l.lookup x=some a->(x,a)∈l
 | [],_,_,h=>by simp at h
 | (n,c)::r,x,a,h=>by
  simp only [List.lookup_cons] at h
  cases hx:x==n with
  | true=>rw [hx] at h;cases h;rw [eq_of_beq hx];exact List.mem_cons_self
  | false=>rw [hx] at h;exact List.mem_cons_of_mem _ (mem_of_lookup h)
theorem lookup_ne:∀ {l:List (Str×Addr)} {x y:Str} {a b:Addr},l.Pairwise (fun x y=>x.2≠y.2)->l.lookup x=some a->l.lookup y=some b->x≠y->a≠b
 | [],_,_,_,_,_,h,_,_=>by simp at h
 | (n,c)::r,x,y,a,b,hp,h1,h2,hne=>by
  rw [List.pairwise_cons] at hp
  simp only [List.lookup_cons] at h1 h2
  cases hx:x==n with
  | true=>
   rw [hx] at h1
   cases h1
   have:(y==n)=false:=by
    cases hy:y==n with
    | false=>rfl
    | true=>exact absurd ((eq_of_beq hx).trans (eq_of_beq hy).symm) hne
   rw [this] at h2
   exact hp.1 (y,b) (mem_of_lookup h2)
  | false=>
   rw [hx] at h1
   cases hy:y==n with
   | true=>
    rw [hy] at h2;cases h2
    exact fun q=>hp.1 (x,a) (mem_of_lookup h1) q.symm
   | false=>
    rw [hy] at h2
    exact lookup_ne hp.2 h1 h2 hne
section
variable {c:Cx} {own:Addr->Option Nat} {ρ:Slots} {s s':Shared}
theorem nodup_fst {l:List (Str×Nat)} (h:(l.map (·.2)).Nodup) {x y:Str} {i:Nat} (hx:(x,i)∈l) (hy:(y,i)∈l):x=y:=by
 induction l with
 | nil=>cases hx
 | cons p r ih=>
  simp only [List.map_cons,List.nodup_cons,List.mem_map,not_exists,not_and] at h
  rcases List.mem_cons.mp hx with e1 | m1<;>rcases List.mem_cons.mp hy with e2 | m2
  ·rw [<-e1] at e2;cases e2;rfl
  ·subst e1;exact absurd rfl (h.1 (y,i) m2)
  ·subst e2;exact absurd rfl (h.1 (x,i) m1)
  ·exact ih h.2 m1 m2
theorem nodup_snd {l:List (Str×Nat)} (h:(l.map (·.1)).Nodup) {x:Str} {i j:Nat} (hx:(x,i)∈l) (hy:(x,j)∈l):i=j:=by
 induction l with
 | nil=>cases hx
 | cons p r ih=>
  simp only [List.map_cons,List.nodup_cons,List.mem_map,not_exists,not_and] at h
  rcases List.mem_cons.mp hx with e1 | m1<;>rcases List.mem_cons.mp hy with e2 | m2
  ·rw [<-e1] at e2;cases e2;rfl
  ·subst e1;exact absurd rfl (h.1 (x,j) m2)
  ·subst e2;exact absurd rfl (h.1 (x,i) m1)
  ·exact ih h.2 m1 m2
theorem set_get {ρ:Slots} {i j:Nat} {d e:PV} (h:(ρ.set i (some d))[j]?=some (some e)):(j=i/\e=d)\/(j≠i/\ρ[j]?=some (some e)):=by
 rw [List.getElem?_set] at h
 split at h
 ·rename_i q
  split at h
  ·cases h;exact .inl ⟨q.symm,rfl⟩
  ·cases h
 ·rename_i q;exact .inr ⟨fun z=>q z.symm,h⟩
theorem St.store {M:Model} {A:Around} {Q:Unit->Shared->Prop} {E:Value->Shared->Prop} {y:Str} {i:Nat} {d:PV} {v:Value} {N:Addr->Prop} (hN:∀ b,PlaceOf c y b->N b) (ok:CxOk c) (x:St c own ρ s) (hm:(y,i)∈c.names) (r:VRd s.heap c own i d v)
  (hQ:∀ s',St c own (ρ.set i (some d)) s'->Stored N s s'->Q () s'):wpAny M A (storeName c.env y v) Q E s:=by
 obtain ⟨ol,m,hm0⟩:=x.loc
 rcases ok.kinds y i hm with hk | ⟨hk,a,ha⟩
 ·refine wpAny_storeName_local hk hm0 (fun h' hn hs=>?_) (by rw [ok.kind];rfl)
  have kp:∀ {P:Addr->Prop},(∀ a,P a->own a≠some dum)->Kp P s.heap h':=fun hP a o ho hmm=>by
   by_cases e:a=c.env.locals
   ·subst e
    obtain ⟨o',es,ep,ho',hd,_⟩:=hm0
    rw [ho] at ho';cases ho'
    rcases hmm with ⟨_,_,hd',_⟩ | ⟨_,_,hd',hp,_⟩
    ·rw [hd] at hd';cases hd'
    ·exact absurd ol (hP _ hp)
   ·rw [hs.2 a e];exact ho
  refine hQ _ ⟨fun b o hb=>?_,fun b hb=>?_,⟨ol,_,hn⟩,x.locNew,fun n b hb=>?_,x.cellNew,fun b hb=>?_,x.ownNew,fun z j e hz he=>?_⟩ ⟨h',_,rfl,fun b o hb hb'=>by rw [hs.2 b (fun e=>hb' (hN b (.inl ⟨hk,e⟩)))];exact hb⟩
  ·have hne:b≠c.env.locals:=fun e=>by rw [e,x.locNew] at hb;cases hb
   obtain ⟨h1,sl,h2⟩:=x.base b o hb
   exact ⟨fun hf=>(hs.2 b hne).trans (h1 hf),sl,(hs.2 b hne).trans h2⟩
  ·obtain ⟨h1,m',h2⟩:=x.fr b hb
   by_cases e:b=c.env.locals
   ·rw [e];exact ⟨ol,_,hn⟩
   ·exact ⟨h1,m',h2.sameBut hs e⟩
  ·obtain ⟨v',o,ho,hd⟩:=x.cell n b hb
   have hne:b≠c.env.locals:=fun e=>by
    obtain ⟨o',es,ep,ho',hd',_⟩:=hm0
    rw [<-e,ho] at ho';cases ho';rw [hd] at hd';cases hd'
   exact ⟨v',o,(hs.2 b hne).trans ho,hd⟩
  ·obtain ⟨o,ho⟩:=x.ownIn b hb
   by_cases e:b=c.env.locals
   ·obtain ⟨o',_,_,ho',_⟩:=hn;rw [e];exact ⟨o',ho'⟩
   ·exact ⟨o,(hs.2 b e).trans ho⟩
  ·rcases set_get he with ⟨rfl,rfl⟩ | ⟨hne,he'⟩
   ·have:z=y:=nodup_fst ok.nodupI hz hm
    subst this
    exact ⟨v,.inl hk _ hn (by simp),r.kp (kp fun a h=>fz_dum h) fun hi=>kp fun a h q=>by rw [h] at q;cases q;exact ok.dumNot hi⟩
   ·obtain ⟨v',hv,hr⟩:=x.vars z j e hz he'
    have hzy:z≠y:=fun q=>hne (nodup_snd ok.nodupN (q ▸ hz) hm)
    refine ⟨v',?_,hr.kp (kp fun a h=>fz_dum h) fun hi=>kp fun a h q=>by rw [h] at q;cases q;exact ok.dumNot hi⟩
    rcases hv with ⟨k1,m1,hn1,e1⟩ | ⟨k1,a,hl,o,ho,hd⟩
    ·refine .inl k1 _ hn ?_
     simp only [if_neg hzy]
     obtain ⟨o1,es1,ep1,ho1,hd1,_,hf1⟩:=hm0
     obtain ⟨o2,es2,ep2,ho2,hd2,_,hf2⟩:=hn1
     rw [ho1] at ho2;cases ho2
     rw [hd1] at hd2;cases hd2
     rw [<-hf1,hf2,e1]
    ·have hne:a≠c.env.locals:=fun e=>by
      obtain ⟨o',es,ep,ho',hd',_⟩:=hm0
      rw [<-e,ho] at ho';cases ho';rw [hd] at hd';cases hd'
     exact .inr k1 a hl ⟨o,(hs.2 a hne).trans ho,hd⟩
 ·obtain ⟨v0,hv0⟩:=x.cell y a ha
  refine wpAny_storeName_cell ok.kind hk ha hv0 fun h' hn hs=>?_
  obtain ⟨oc,hoc,hdc⟩:=hv0
  have kp:∀ {P:Addr->Prop},Kp P s.heap h':=fun b o ho hmm=>by
   by_cases e:b=a
   ·subst e
    rw [ho] at hoc;cases hoc
    rcases hmm with ⟨_,_,hd',_⟩ | ⟨_,_,hd',hp,_⟩<;>(rw [hdc] at hd';cases hd')
   ·rw [hs.2 b e];exact ho
  have nsne:∀ {b m'},s.heap.Ns b m'->b≠a:=fun {b m'} h e=>by
   obtain ⟨o',es,ep,ho',hd',_⟩:=h
   rw [e,hoc] at ho';cases ho';rw [hdc] at hd';cases hd'
  refine hQ _ ⟨fun b o hb=>?_,fun b hb=>?_,⟨ol,_,hm0.sameBut hs (nsne hm0)⟩,x.locNew,fun n b hb=>?_,x.cellNew,fun b hb=>?_,x.ownNew,fun z j e hz he=>?_⟩ ⟨h',s.toks,rfl,fun b o hb hb'=>by rw [hs.2 b (fun e=>hb' (hN b (.inr ⟨hk,e ▸ ha⟩)))];exact hb⟩
  ·have hne:b≠a:=fun e=>by rw [e,x.cellNew y a ha] at hb;cases hb
   obtain ⟨h1,sl,h2⟩:=x.base b o hb
   exact ⟨fun hf=>(hs.2 b hne).trans (h1 hf),sl,(hs.2 b hne).trans h2⟩
  ·obtain ⟨h1,m',h2⟩:=x.fr b hb
   exact ⟨h1,m',h2.sameBut hs (nsne h2)⟩
  ·by_cases e:b=a
   ·rw [e];exact ⟨_,hn⟩
   ·obtain ⟨v',o,ho,hd⟩:=x.cell n b hb
    exact ⟨v',o,(hs.2 b e).trans ho,hd⟩
  ·obtain ⟨o,ho⟩:=x.ownIn b hb
   by_cases e:b=a
   ·obtain ⟨o',ho',_⟩:=hn;rw [e];exact ⟨o',ho'⟩
   ·exact ⟨o,(hs.2 b e).trans ho⟩
  ·rcases set_get he with ⟨rfl,rfl⟩ | ⟨hne,he'⟩
   ·have:z=y:=nodup_fst ok.nodupI hz hm
    subst this
    exact ⟨v,.inr hk a ha hn,r.kp kp fun hi=>kp⟩
   ·obtain ⟨v',hv,hr⟩:=x.vars z j e hz he'
    have hzy:z≠y:=fun q=>hne (nodup_snd ok.nodupN (q ▸ hz) hm)
    refine ⟨v',?_,hr.kp kp fun hi=>kp⟩
    rcases hv with ⟨k1,m1,hn1,e1⟩ | ⟨k1,b,hl,o,ho,hd⟩
    ·exact .inl k1 m1 (hn1.sameBut hs (nsne hn1)) e1
    ·exact .inr k1 b hl ⟨o,(hs.2 b (lookup_ne ok.apart hl ha hzy)).trans ho,hd⟩
theorem Stored.refl {N:Addr->Prop}:Stored N s s:=⟨s.heap,s.toks,rfl,fun _ _ h _=>h⟩
theorem Stored.trans {N:Addr->Prop} {s'':Shared} (x:Stored N s s') (y:Stored N s' s''):Stored N s s'':=by
 obtain ⟨h1,t1,rfl,k1⟩:=x
 obtain ⟨h2,t2,rfl,k2⟩:=y
 exact ⟨h2,t2,rfl,fun b o hb hN=>k2 b o (k1 b o hb hN) hN⟩
theorem Stored.keeps {N:Addr->Prop} (k:Keeps s s'):Stored N s s':=by
 obtain ⟨h1,t1,rfl,k1⟩:=k
 exact ⟨h1,t1,rfl,fun b o hb _=>k1 b o hb⟩
theorem Stored.kp (x:St c own ρ s) {N:Addr->Prop} (hNN:∀ b,N b->Names c b) (y:Stored N s s') {P:Addr->Prop} (hP:∀ a,P a->own a≠some dum):Kp P s.heap s'.heap:=by
 obtain ⟨h',tk,rfl,k⟩:=y
 intro a o ho hm
 refine k a o ho fun hN=>?_
 rcases hNN a hN with rfl | ⟨n,hn⟩
 ·obtain ⟨ol,m,o',es,ep,ho',hd,_⟩:=x.loc
  rw [ho] at ho';cases ho'
  rcases hm with ⟨_,_,hd',_⟩ | ⟨_,_,hd',hp,_⟩
  ·rw [hd] at hd';cases hd'
  ·exact hP _ hp ol
 ·obtain ⟨v,o',ho',hd⟩:=x.cell n a hn
  rw [ho] at ho';cases ho'
  rcases hm with ⟨_,_,hd',_⟩ | ⟨_,_,hd',hp,_⟩<;>(rw [hd] at hd';cases hd')
end
section
variable {c:Cx} {own:Addr->Option Nat} {ρ:Slots} {s s':Shared}
noncomputable def AllAt (c:Cx) (N:Addr->Prop):List (Str×Pos)->List Nat->Prop
 | [],[]=>True
 | p::ps,i::is=>((p.1,i)∈c.names/\i∉c.mv/\∀ b,PlaceOf c p.1 b->N b)/\AllAt c N ps is
 | _,_=>False
theorem AllAt.length {N:Addr->Prop}:∀ {xs:List (Str×Pos)} {is:List Nat},AllAt c N xs is->xs.length=is.length
 | [],[],_=>rfl
 | _::_,_::_,h=>by simp [AllAt.length h.2]
inductive TgtAt (c:Cx) (N:Addr->Prop):Expr->Tgt->Prop where
 | one {x i pos} (h:(x,i)∈c.names) (hi:i∉c.mv) (hN:∀ b,PlaceOf c x b->N b):TgtAt c N (.Name x pos) (.one i)
 | many {xs:List (Str×Pos)} {is:List Nat} {k pos} (h:AllAt c N xs is):TgtAt c N (.Tuple (xs.map fun p=>.Name p.1 p.2) k pos) (.many is)
theorem TgtAt.ok {N:Addr->Prop} {e:Expr} {t:Tgt} (h:TgtAt c N e t):tgtOk e=true:=by cases h<;>rfl
theorem each_store {N:Addr->Prop} (hNN:∀ b,N b->Names c b) (ok:CxOk c) {A:Around} {E:Value->Shared->Prop} {xs:List (Str×Pos)} {Q:Unit->Shared->Prop}:∀ {is:List Nat} {l:List PV} {vs:List Value} {ρ:Slots} {s:Shared},
  AllAt c N xs is->St c own ρ s->Rds s.heap (Fz c own) l vs->is.length=l.length ->
  (∀ s',St c own ((is.zip l).foldl (fun ρ p=>ρ.set p.1 (some p.2)) ρ) s'->Stored N s s'->Q () s') ->
  wpAny (model prog w) A (assignInOrder ((assignEach (xs.map fun p=>.Name p.1 p.2) c.env).map (·.2)) vs) Q E s:=by
 induction xs with
 | nil=>
  intro is l vs ρ s ha x hr hl hQ
  cases is with
  | cons _ _=>exact ha.elim
  | nil=>
   cases l with
   | cons _ _=>cases hl
   | nil=>cases (show vs=[] from hr);exact wpAny_assignInOrder_none (hQ s x .refl)
 | cons p xs ih=>
  intro is l vs ρ s ha x hr hl hQ
  cases is with
  | nil=>exact ha.elim
  | cons i is=>
   cases l with
   | nil=>cases hl
   | cons d l=>
    cases vs with
    | nil=>obtain ⟨_,_,h,_⟩:=hr;cases h
    | cons v r=>
     have r1:Rd s.heap (Fz c own) d v/\Rds s.heap (Fz c own) l r:=by
      obtain ⟨_,_,h,r1,r2⟩:=hr;cases h;exact ⟨r1,r2⟩
     exact wpAny_assignInOrder_more (wpAny_assign_Name (x.store ha.1.2.2 ok ha.1.1 (d:=d) (by unfold VRd;rw [if_neg ha.1.2.1];exact r1.1) fun s' x' st=>
      ih ha.2 x' (Rds.to (st.kp x hNN fun a h=>fz_dum h) l r1.2) (Nat.succ.inj hl) fun s'' x'' st'=>hQ s'' x'' (st.trans st')))
theorem each_length:∀ (xs:List (Str×Pos)) (env:Env),(assignEach (xs.map fun p=>.Name p.1 p.2) env).length=xs.length
 | [],_=>rfl
 | p::xs,env=>congrArg (·+1) (each_length xs env)
theorem each_star:∀ (xs:List (Str×Pos)) (env:Env),(assignEach (xs.map fun p=>.Name p.1 p.2) env).findIdx? (·.1)=none
 | [],_=>rfl
 | p::xs,env=>by
  show List.findIdx? _ (_::assignEach (xs.map fun p=>.Name p.1 p.2) env)=none
  rw [List.findIdx?_cons,each_star xs env];rfl
theorem tgt_store {N:Addr->Prop} (hNN:∀ b,N b->Names c b) (ok:CxOk c) {A:Around} (hh:A.handled=none) {E:Value->Shared->Prop} {Q:Unit->Shared->Prop} {e:Expr} {t:Tgt} (h:TgtAt c N e t) (x:St c own ρ s) {d:PV} {v:Value} (r:Rd s.heap (Fz c own) d v) (hn:setTgt t d ρ≠.stuck)
  (hQ:∀ ρ' s',setTgt t d ρ=.ok ρ'->St c own ρ' s'->Stored N s s'->Q () s'):wpAny (model prog w) A (assign e c.env v) Q E s:=by
 cases h with
 | one hm hi hN=>exact wpAny_assign_Name (x.store hN ok hm (by unfold VRd;rw [if_neg hi];exact r) fun s' x' st=>hQ _ s' rfl x' st)
 | many hps=>
  rename_i xs is k pos
  cases d with
  | tuple l=>
   simp only [setTgt] at hn hQ
   split at hn
   ·rename_i hl
    rw [if_pos hl] at hQ
    obtain ⟨a,vs,rfl,⟨n,hs⟩,hlen,hr⟩:=r
    have hlv:=hr.length
    refine wpAny_assign_Tuple hh ⟨_,hs,rfl,n,rfl⟩ (by rw [each_length,hps.length,hl,<-hlv];simp) (each_star xs c.env) fun h' hx=>?_
    have kk:Keeps s { s with heap:=h' }:=⟨h',s.toks,rfl,fun b o hb=>hx b o (Nat.ne_of_lt (Heap.lt_size hb)) hb⟩
    have x1:St c own ρ { s with heap:=h' }:=x.grow ok (Grow.of_keeps kk)
    exact each_store hNN ok hps x1 (Rds.to (fun b o hb _=>hx b o (Nat.ne_of_lt (Heap.lt_size hb)) hb) l hr) hl fun s' x' st=>hQ _ s' rfl x' ((Stored.keeps kk).trans st)
   ·exact absurd rfl hn
  | _=>exact absurd rfl hn
end
end Mine.Internal
end
section
namespace Mine.Internal
open PySem PySem.Spec PyProof.Rows
noncomputable def cloF (env:Env) (names:List (Str×NameKind)):List (Str×Addr):=names.filterMap fun p=>if p.2==.free then some (p.1,(env.cells.lookup p.1).getD 0) else none
theorem cloF_free {env:Env} {n:Str} {k:NameKind} {r:List (Str×NameKind)} (hk:(k==NameKind.free)=true):cloF env ((n,k)::r)=(n,(env.cells.lookup n).getD 0)::cloF env r:=by
 unfold cloF;rw [List.filterMap_cons];simp only [hk,if_true]
theorem cloF_not {env:Env} {n:Str} {k:NameKind} {r:List (Str×NameKind)} (hk:(k==NameKind.free)=false):cloF env ((n,k)::r)=cloF env r:=by
 unfold cloF;rw [List.filterMap_cons];simp only [hk,Bool.false_eq_true,if_false]
theorem clo_eq {scope:Scope} {env:Env} (h:∀ p∈scope.names,p.2=.free->∃ a,env.cells.lookup p.1=some a):closureFor scope env=pure (cloF env scope.names).reverse:=by
 simp only [closureFor]
 have go:∀ (names:List (Str×NameKind)) (acc:List (Str×Addr)),(∀ p∈names,p.2=.free->∃ a,env.cells.lookup p.1=some a) ->
   (forIn names acc fun (x:Str×NameKind) (r:List (Str×Addr))=>if (x.2==NameKind.free)=true then (do let a <-cellOf env x.1;pure (ForInStep.yield ((x.1,a)::r))) else pure (ForInStep.yield r):Sem _)=pure ((cloF env names).reverse++acc):=by
  intro names
  induction names with
  | nil=>intro acc _;rfl
  | cons p r ih=>
   intro acc hp
   obtain ⟨n,k⟩:=p
   rw [List.forIn_cons]
   cases hk:(k==NameKind.free) with
   | true=>
    obtain ⟨a,ha⟩:=hp (n,k) List.mem_cons_self (eq_of_beq hk)
    have hc:cellOf env n=pure a:=by unfold cellOf;rw [ha]
    have e1:cloF env ((n,k)::r)=(n,a)::cloF env r:=by rw [cloF_free hk,ha];rfl
    simp only [if_true,hc,e1]
    rw [List.reverse_cons,List.append_assoc]
    exact ih _ fun p hm=>hp p (List.mem_cons_of_mem _ hm)
   | false=>
    have e1:cloF env ((n,k)::r)=cloF env r:=cloF_not hk
    simp only [Bool.false_eq_true,if_false,e1]
    exact ih _ fun p hm=>hp p (List.mem_cons_of_mem _ hm)
 have:=go scope.names [] h
 rw [List.append_nil] at this
 rw [this]
 rfl
theorem clo_mem {env:Env} {names:List (Str×NameKind)} {n:Str} {a:Addr} (h:(n,a)∈cloF env names):(n,NameKind.free)∈names/\a=(env.cells.lookup n).getD 0:=by
 obtain ⟨p,hp,e⟩:=List.mem_filterMap.mp h
 split at e
 ·rename_i hk
  cases e
  have:=eq_of_beq hk
  exact ⟨by rw [<-this];exact hp,rfl⟩
 ·cases e
theorem mem_clo {env:Env} {names:List (Str×NameKind)} {n:Str} (h:(n,NameKind.free)∈names):(n,(env.cells.lookup n).getD 0)∈cloF env names:=
 List.mem_filterMap.mpr ⟨_,h,by simp⟩
theorem clo_keys {env:Env}:∀ {names:List (Str×NameKind)},(names.map (·.1)).Nodup->((cloF env names).map (·.1)).Nodup
 | [],_=>List.nodup_nil
 | (n,k)::r,h=>by
  simp only [List.map_cons,List.nodup_cons] at h
  have ih:=clo_keys (env:=env) h.2
  cases hk:(k==NameKind.free) with
  | true=>
   have e1:cloF env ((n,k)::r)=(n,(env.cells.lookup n).getD 0)::cloF env r:=cloF_free hk
   rw [e1,List.map_cons,List.nodup_cons]
   refine ⟨fun hm=>?_,ih⟩
   obtain ⟨p,hp,e⟩:=List.mem_map.mp hm
   obtain ⟨n',a⟩:=p
   simp only at e
   subst e
   exact h.1 (List.mem_map.mpr ⟨_,(clo_mem hp).1,rfl⟩)
  | false=>
   have e1:cloF env ((n,k)::r)=cloF env r:=cloF_not hk
   rw [e1];exact ih
theorem lookup_of_mem {α:Type}:∀ {l:List (Str×α)} {x:Str} {a:α},(l.map (·.1)).Nodup->(x,a)∈l->l.lookup x=some a
 | [],_,_,_,h=>by cases h
 | (n,c)::r,x,a,hn,h=>by
  simp only [List.map_cons,List.nodup_cons] at hn
  simp only [List.lookup_cons]
  rcases List.mem_cons.mp h with e | hm
  ·cases e;simp
  ·have:(x==n)=false:=by
    cases q:x==n with
    | false=>rfl
    | true=>exact absurd (List.mem_map.mpr ⟨_,hm,rfl⟩) (by rw [eq_of_beq q];exact hn.1)
   rw [this];exact lookup_of_mem hn.2 hm
structure Clo (env:Env) (names:List (Str×NameKind)) (cl:List (Str×Addr)):Prop where
 to:∀ n a,cl.lookup n=some a->env.cells.lookup n=some a
 has:∀ n,(n,NameKind.free)∈names->∃ a,cl.lookup n=some a
 apart:cl.Pairwise fun x y=>x.2≠y.2
theorem clo_ok {scope:Scope} {env:Env} (hn:(scope.names.map (·.1)).Nodup) (ha:env.cells.Pairwise fun x y=>x.2≠y.2) (h:∀ p∈scope.names,p.2=.free->∃ a,env.cells.lookup p.1=some a):Clo env scope.names (cloF env scope.names).reverse where
 to:=fun n a e=>by
  have hm:=mem_of_lookup e
  rw [List.mem_reverse] at hm
  obtain ⟨h1,h2⟩:=clo_mem hm
  obtain ⟨b,hb⟩:=h _ h1 rfl
  rw [hb] at h2 ⊢;rw [h2];rfl
 has:=fun n hm=>⟨_,lookup_of_mem (by rw [List.map_reverse];exact List.pairwise_reverse.mpr ((clo_keys hn).imp fun h=>Ne.symm h)) (List.mem_reverse.mpr (mem_clo hm))⟩
 apart:=by
  rw [List.pairwise_reverse]
  have:=clo_keys (env:=env) hn
  rw [List.Nodup,List.pairwise_map] at this
  refine this.imp_of_mem fun {x y} hx hy hne=>?_
  obtain ⟨h1,h2⟩:=clo_mem (n:=x.1) (a:=x.2) hx
  obtain ⟨h3,h4⟩:=clo_mem (n:=y.1) (a:=y.2) hy
  obtain ⟨b,hb⟩:=h _ h1 rfl
  obtain ⟨b',hb'⟩:=h _ h3 rfl
  rw [h2,h4,hb,hb']
  exact (lookup_ne ha hb hb' hne).symm
section
variable {c:Cx} {own:Addr->Option Nat} {ρ:Slots} {s:Shared}
noncomputable def Loose (c:Cx) (own:Addr->Option Nat) (s:Shared) (W:Addr->Prop):Prop:=
 ∀ b,W b->c.h0.get? b=none/\∃ o,s.heap.get? b=some o/\((∃ vs,o.data=.fields vs)\/(own b=some dum/\∃ vs n,o.data=.seq vs n/\o.cls=.type "list")\/(own b=some dum/\b∉frs c.A/\b≠c.env.locals/\∃ es n,o.data=.dict es n))
theorem Loose.kp {W:Addr->Prop} (hW:Loose c own s W) {h':Heap} (k:∀ b o,¬ W b->s.heap.get? b=some o->h'.get? b=some o) {P:Addr->Prop} (hP:∀ a,P a->own a≠some dum):Kp P s.heap h':=fun a o ho hm=>by
 refine k a o (fun hw=>?_) ho
 obtain ⟨_,o',ho',hd⟩:=hW a hw
 rw [ho] at ho';cases ho'
 rcases hd with ⟨vs,hd⟩ | ⟨hd1,vs,n,hd2,hd3⟩ | ⟨hd1,_,_,es,n,hd2⟩
 ·rcases hm with ⟨_,_,hd',_⟩ | ⟨_,_,hd',_⟩<;>(rw [hd] at hd';cases hd')
 ·rcases hm with ⟨_,_,_,hc | ⟨hp,_⟩⟩ | ⟨_,_,hd',hp,_⟩
  ·rw [hd3] at hc;simp at hc
  ·exact hP a hp hd1
  ·exact hP a hp hd1
 ·rcases hm with ⟨_,_,hd',_⟩ | ⟨_,_,hd',hp,_⟩
  ·rw [hd2] at hd';cases hd'
  ·exact hP a hp hd1
structure Reown (c:Cx) (own own':Addr->Option Nat):Prop where
 non:∀ a,own a=none->own' a=none
 som:∀ a i,i∈c.mv->own a=some i->own' a=some i
 back:∀ a i,i∈c.mv->own' a=some i->own a=some i
 fr:∀ a∈frs c.A,own' a=own a
 loc:own' c.env.locals=own c.env.locals
theorem Reown.refl:Reown c own own:=⟨fun _ h=>h,fun _ _ _ h=>h,fun _ _ _ h=>h,fun _ _=>rfl,rfl⟩
theorem VRd.reown {own':Addr->Option Nat} (r:Reown c own own') {h:Heap} {i:Nat} {d:PV} {v:Value} (x:VRd h c own i d v):VRd h c own' i d v:=by
 unfold VRd at x ⊢
 split
 ·rename_i hi
  rw [if_pos hi] at x
  exact RdO.imp (fun a _ _ _ p=>r.som a i hi p) (fun a _ _ _ p=>⟨p.1,r.non a p.2⟩) x
 ·rename_i hi
  rw [if_neg hi] at x
  exact Rd.imp (fun a _ _ _ p=>⟨p.1,r.non a p.2⟩) d x
theorem St.change' (ok:CxOk c) (x:St c own ρ s) {W:Addr->Prop} (hW:Loose c own s W) {h':Heap} {tk:Nat} {own':Addr->Option Nat} (hr:Reown c own own') (hS:∀ b,W b->own' b≠none->∃ o,h'.get? b=some o) (hS':∀ b,¬ W b->own' b=own b)
  (k:∀ b o,¬ W b->s.heap.get? b=some o->h'.get? b=some o):St c own' ρ (up s (h') (tk)) where
 base:=fun b o hb=>by
  have hnw:¬ W b:=fun hw=>by have:=(hW b hw).1;rw [hb] at this;cases this
  obtain ⟨h1,sl,h2⟩:=x.base b o hb
  exact ⟨fun hf=>k b _ hnw (h1 hf),sl,k b _ hnw h2⟩
 fr:=fun b hb=>by
  obtain ⟨h1,m,o,es,ep,ho,hd,r⟩:=x.fr b hb
  refine ⟨(hr.fr b hb).trans h1,m,o,es,ep,k b o (fun hw=>?_) ho,hd,r⟩
  obtain ⟨_,o',ho',hq⟩:=hW b hw
  rw [ho] at ho';cases ho'
  rcases hq with ⟨vs,hq⟩ | ⟨_,_,_,hq,_⟩ | ⟨_,hq,_⟩
  ·rw [hd] at hq;cases hq
  ·rw [hd] at hq;cases hq
  ·exact hq hb
 loc:=by
  obtain ⟨h1,m,o,es,ep,ho,hd,r⟩:=x.loc
  refine ⟨hr.loc.trans h1,m,o,es,ep,k _ o (fun hw=>?_) ho,hd,r⟩
  obtain ⟨_,o',ho',hq⟩:=hW _ hw
  rw [ho] at ho';cases ho'
  rcases hq with ⟨vs,hq⟩ | ⟨_,_,_,hq,_⟩ | ⟨_,_,hq,_⟩
  ·rw [hd] at hq;cases hq
  ·rw [hd] at hq;cases hq
  ·exact hq rfl
 locNew:=x.locNew
 cell:=fun n b hb=>by
  obtain ⟨v,o,ho,hd⟩:=x.cell n b hb
  refine ⟨v,o,k b o (fun hw=>?_) ho,hd⟩
  obtain ⟨_,o',ho',hq⟩:=hW b hw
  rw [ho] at ho';cases ho'
  rcases hq with ⟨vs,hq⟩ | ⟨_,_,_,hq,_⟩ | ⟨_,_,_,_,_,hq⟩<;>(rw [hd] at hq;cases hq)
 cellNew:=x.cellNew
 ownIn:=fun b hb=>by
  by_cases hw:W b
  ·exact hS b hw hb
  ·rw [hS' b hw] at hb;obtain ⟨o,ho⟩:=x.ownIn b hb;exact ⟨o,k b o hw ho⟩
 ownNew:=fun a i h hi=>x.ownNew a i (hr.back a i hi h) hi
 vars:=fun y i d hm hd=>by
  obtain ⟨v,hv,hq⟩:=x.vars y i d hm hd
  refine ⟨v,?_,VRd.reown hr (hq.kp (hW.kp k fun a h=>fz_dum h) fun hi=>hW.kp k fun a h e=>by rw [h] at e;cases e;exact ok.dumNot hi)⟩
  rcases hv with ⟨k1,m,⟨o,es,ep,ho,hd,r⟩,e⟩ | ⟨k1,a,hl,o,ho,hd⟩
  ·refine .inl k1 m ⟨o,es,ep,k _ o (fun hw=>?_) ho,hd,r⟩ e
   obtain ⟨_,o',ho',hq⟩:=hW _ hw
   rw [ho] at ho';cases ho'
   rcases hq with ⟨vs,hq⟩ | ⟨_,_,_,hq,_⟩ | ⟨_,_,hq,_⟩
   ·rw [hd] at hq;cases hq
   ·rw [hd] at hq;cases hq
   ·exact hq rfl
  ·refine .inr k1 a hl ⟨o,k _ o (fun hw=>?_) ho,hd⟩
   obtain ⟨_,o',ho',hq⟩:=hW _ hw
   rw [ho] at ho';cases ho'
   rcases hq with ⟨vs,hq⟩ | ⟨_,_,_,hq,_⟩ | ⟨_,_,_,_,_,hq⟩<;>(rw [hd] at hq;cases hq)
theorem St.change (ok:CxOk c) (x:St c own ρ s) {W:Addr->Prop} (hW:Loose c own s W) {h':Heap} {tk:Nat} (hS:∀ b,W b->own b≠none->∃ o,h'.get? b=some o)
  (k:∀ b o,¬ W b->s.heap.get? b=some o->h'.get? b=some o):St c own ρ (up s (h') (tk)):=x.change' ok hW .refl hS (fun _ _=>rfl) k
end
noncomputable def compFix (f:Fix) (scope:Scope) (xs:List Str) (cl:List (Str×Addr)) (C:Addr):Fix:=
 { f with c:={ f.c with env:=compEnvC scope cl C f.c.env,names:=compSlots f.t scope.names xs },t:=compTC f.t scope.names xs }
theorem relabel_names {f:Fix} (F:FixOk f) (scope:Scope):(relabel scope f.c.env).names=compNames f.t.scope scope.names:=by
 show scope.names.map _=scope.names.map _
 refine List.map_congr_left fun p _=>?_
 obtain ⟨n,k⟩:=p
 have hk:(f.c.env.scope.kind==ScopeKind.function)=true:=by rw [F.ok.kind];rfl
 have hl:f.c.env.kindOf n=f.t.scope.lookup n:=by show f.c.env.scope.names.lookup n=_;rw [F.scope]
 simp only [hk,hl,Bool.and_true]
structure CompOk (t:TC) (names:List (Str×NameKind)) (xs:List Str):Prop where
 each:∀ x∈xs,names.lookup x=some .local/\(x==("__debug__" : Str))=false
 nodup:xs.Nodup
 kinds:∀ p∈names,p.2=.local\/p.2=.globalImplicit\/(p.2=.free/\t.scope.lookup p.1=some .cell/\∃ i,(p.1,i)∈t.slots)
 keys:(names.map (·.1)).Nodup
theorem compOk_ok {t:TC} {names:List (Str×NameKind)} {xs:List Str} (h:compOk t names xs=true):CompOk t names xs:=by
 unfold compOk at h
 simp only [Bool.and_eq_true,List.all_eq_true,decide_eq_true_eq,Bool.or_eq_true] at h
 obtain ⟨⟨⟨⟨h1,h2⟩,h3⟩,h4⟩,h5⟩:=h
 refine ⟨fun x hx=>?_,h2,fun p hp=>?_,h5⟩
 ·obtain ⟨⟨a,b⟩,c⟩:=h1 x hx
  exact ⟨eq_of_beq a,by simpa using b⟩
 ·rcases h3 p hp with (a | a) | a
  ·exact .inl (eq_of_beq a)
  ·exact .inr (.inl (eq_of_beq a))
  ·refine .inr (.inr ⟨eq_of_beq a.1.1,eq_of_beq a.1.2,?_⟩)
   obtain ⟨i,hi⟩:=Option.isSome_iff_exists.mp a.2
   exact ⟨i,mem_of_lookup hi⟩
theorem compNames_cell {outer names:List (Str×NameKind)} {x:Str} (h:(compNames outer names).lookup x=some .cell) (hk:∀ p∈names,p.2≠.cell):(x,NameKind.free)∈names/\outer.lookup x=some .cell:=by
 have hm:=mem_of_lookup h
 obtain ⟨p,hp,e⟩:=List.mem_map.mp hm
 split at e
 ·rename_i hc
  cases e
  simp only [Bool.and_eq_true] at hc
  have:=eq_of_beq hc.1
  exact ⟨by rw [<-this];exact hp,eq_of_beq hc.2⟩
 ·subst e;exact absurd rfl (hk _ hp)
theorem zipIdx_mem {xs:List Str} {t0:Nat} {x:Str} {i:Nat} (h:(x,i)∈xs.zipIdx.map (fun p=>(p.1,t0+p.2))):x∈xs/\t0<=i/\i < t0+xs.length/\xs[i-t0]?=some x:=by
 obtain ⟨p,hp,e⟩:=List.mem_map.mp h
 obtain ⟨y,j⟩:=p
 cases e
 have:=List.mem_zipIdx' hp
 obtain ⟨h1,h2⟩:=this
 simp only
 refine ⟨by rw [h2];exact List.getElem_mem h1,Nat.le_add_right _ _,by exact o324 h1,?_⟩
 rw [Nat.add_sub_cancel_left,List.getElem?_eq_getElem h1,<-h2]
theorem compSlots_cell {t:TC} {names:List (Str×NameKind)} {xs:List Str} {x:Str} {i:Nat} (h:(x,i)∈compSlots t names xs):
  (x∈xs/\t.cbase<=i/\i < t.cbase+xs.length)\/((x,i)∈t.slots/\x∉xs/\(compNames t.scope names).lookup x=some .cell):=by
 rcases List.mem_append.mp h with h | h
 ·obtain ⟨h1,h2,h3,_⟩:=zipIdx_mem h;exact .inl ⟨h1,h2,h3⟩
 ·obtain ⟨h1,h2⟩:=List.mem_filter.mp h
  simp only [Bool.and_eq_true] at h2
  refine .inr ⟨h1,?_,eq_of_beq h2.2⟩
  simpa using h2.1
theorem zip_nodup (xs:List Str) (t0:Nat) (h:xs.Nodup):((xs.zipIdx.map (fun p=>(p.1,t0+p.2))).map (·.1)).Nodup/\((xs.zipIdx.map (fun p=>(p.1,t0+p.2))).map (·.2)).Nodup:=by
 rw [List.map_map,List.map_map]
 constructor
 ·have:(List.map ((fun x=>x.fst) ∘ fun p:Str×Nat=>(p.1,t0+p.2)) xs.zipIdx)=xs:=by
   simp [Function.comp_def]
  rw [this];exact h
 ·have:(List.map ((fun x=>x.snd) ∘ fun p:Str×Nat=>(p.1,t0+p.2)) xs.zipIdx)=(List.range' 0 xs.length).map (t0+·):=by
   rw [<-List.zipIdx_map_snd 0 xs,List.map_map];rfl
  rw [this,List.Nodup,List.pairwise_map]
  exact (List.nodup_range' (step:=1)).imp fun h q=>h (by exact o325 q)
theorem nodup_filter_map {α β:Type} {l:List α} {g:α->β} {p:α->Bool} (h:(l.map g).Nodup):((l.filter p).map g).Nodup:=by
 rw [List.Nodup,List.pairwise_map] at h ⊢
 exact h.filter p
theorem compFix_ok {f:Fix} (F:FixOk f) {scope:Scope} {xs:List Str} {cl:List (Str×Addr)} {C:Addr} (hk:scope.kind=.function) (ok:CompOk f.t scope.names xs) (hcl:Clo f.c.env scope.names cl):FixOk (compFix f scope xs cl C) where
 ok:={
  kind:=hk
  nodupN:=by
   show ((compSlots f.t scope.names xs).map (·.1)).Nodup
   unfold compSlots
   rw [List.map_append,List.nodup_append]
   refine ⟨(zip_nodup xs _ ok.nodup).1,nodup_filter_map (F.names ▸ F.ok.nodupN),fun a ha b hb e=>?_⟩
   subst e
   obtain ⟨p,hp,rfl⟩:=List.mem_map.mp ha
   obtain ⟨q,hq,e⟩:=List.mem_map.mp hb
   have h1:=(zipIdx_mem (i:=p.2) hp).1
   have h2:=(List.mem_filter.mp hq).2
   simp only [Bool.and_eq_true] at h2
   rw [e] at h2
   have h3:p.1∉xs:=by simpa using h2.1
   exact h3 h1
  nodupI:=by
   show ((compSlots f.t scope.names xs).map (·.2)).Nodup
   unfold compSlots
   rw [List.map_append,List.nodup_append]
   refine ⟨(zip_nodup xs _ ok.nodup).2,nodup_filter_map (F.names ▸ F.ok.nodupI),fun a ha b hb e=>?_⟩
   subst e
   obtain ⟨p,hp,rfl⟩:=List.mem_map.mp ha
   obtain ⟨q,hq,e⟩:=List.mem_map.mp hb
   have h1:=(zipIdx_mem (x:=p.1) hp).2.1
   have h2:=F.cb q.1 q.2 (List.mem_filter.mp hq).1
   exact (o326 e h1 h2).elim
  kinds:=fun x i hm=>by
   have hne:∀ p∈scope.names,p.2≠.cell:=fun p hp q=>by rcases ok.kinds p hp with h | h | h<;>simp [q] at h
   rcases compSlots_cell hm with ⟨h1,_⟩ | ⟨h1,h2,h3⟩
   ·exact .inl (lookup_relabel_local (ok.each x h1).1)
   ·refine .inr ⟨?_,?_⟩
    ·show (relabel scope f.c.env).names.lookup x=_
     rw [relabel_names F];exact h3
    ·exact hcl.has x (compNames_cell h3 hne).1
  debug:=fun x i hm=>by
   rcases compSlots_cell hm with ⟨h1,_⟩ | ⟨h1,h2,h3⟩
   ·exact (ok.each x h1).2
   ·exact F.ok.debug x i (F.names ▸ h1)
  apart:=hcl.apart
  handled:=F.ok.handled
  dumNot:=F.ok.dumNot
  units:=F.ok.units
  frames:=F.ok.frames }
 scope:=relabel_names F scope
 names:=rfl
 mv:=F.mv
 gl:=F.gl
 bl:=F.bl
 gnd:=F.gnd
 base:=F.base
 depth:=F.depth
 units:=F.units
 cb:=fun x i hm=>by
  rcases compSlots_cell hm with ⟨_,_,h1⟩ | ⟨h1,_⟩
  ·exact h1
  ·exact Nat.lt_of_lt_of_le (F.cb x i h1) (Nat.le_add_right _ _)
 mvb:=fun i hi=>Nat.lt_of_lt_of_le (F.mvb i hi) (Nat.le_add_right _ _)
end Mine.Internal
end
section
namespace Mine.Internal
open PySem PySem.Spec PyProof.Rows
section
variable {A:Around} {R:Result->Shared->Prop} {s:Shared}
theorem compLoop_own {elt target iter:Expr} {ifs:List Expr} {scope:Scope} {pos:Pos} {it acc:Value} {env:Env} (I:Nat->Shared->Prop)
  (turn:∀ n s,I n s->wpAny (model prog w) A (pyNext it) (fun r s₁=>match r with
   | none=>R (.ok .next) s₁
   | some v=>wpAny (model prog w) A (letOwnedTupleGo target it v) (fun _ s₁=>wpAny (model prog w) A (assign target env v) (fun _ s₂=>
     wpAny (model prog w) A (forIn ifs true fun c r=>if r=true then do let ok <-isTrue c env (eval c env);pure (ForInStep.yield ok) else pure (ForInStep.yield r)) (fun ok s₃=>
      if ok=true then wpAny (model prog w) A (eval elt env) (fun x s₄=>
       wpAny (model prog w) A (call (.builtin "list.append") [acc,x]) (fun _ s₅=>∃ m,m < n/\I m s₅) (notedBy (model prog w) A env fun e s'=>R (.error e) s') s₄) (notedBy (model prog w) A env fun e s'=>R (.error e) s') s₃
      else ∃ m,m < n/\I m s₃) (notedBy (model prog w) A env fun e s'=>R (.error e) s') s₂) (notedBy (model prog w) A env fun e s'=>R (.error e) s') s₁) (notedBy (model prog w) A env fun e s'=>R (.error e) s') s₁) (notedBy (model prog w) A env fun e s'=>R (.error e) s') s)
  (n:Nat) (h:I n s):
  codeAny (model prog w) A (.compLoop (.ListComp elt [⟨target,iter,ifs,0⟩] scope pos) 0 it acc env) R s:=by
 refine codeAny_loop rfl I (fun n s hI=>?_) n h
 show wpAny _ A ((compTurn (.ListComp elt [⟨target,iter,ifs,0⟩] scope pos) 0 it acc env).onRaise (fun x=>do noteFrame x env;theTreesLotGoes x)) _ _ s
 refine wpAny_noted ?_
 rw [compTurn_list]
 refine wpAny_bind (wpAny_standAt (wpAny_bind (wpAny_mono (turn n s hI) (fun r s₁ h₁=>?_) fun _ _ h'=>h')))
 cases r with
 | none=>exact wpAny_pure h₁
 | some v=>
  refine wpAny_bind (wpAny_mono h₁ (fun _ s₁ h₁=>wpAny_bind (wpAny_mono h₁ (fun _ s₂ h₂=>wpAny_bind (wpAny_mono h₂ (fun ok s₃ h₃=>?_) fun _ _ h'=>h')) fun _ _ h'=>h')) fun _ _ h'=>h')
  cases ok with
  | false=>exact wpAny_pure ⟨rfl,h₃⟩
  | true=>
   exact wpAny_bind (wpAny_bind (wpAny_mono h₃ (fun x s₄ h₄=>wpAny_bind (wpAny_mono h₄ (fun _ s₅ h₅=>wpAny_pure (wpAny_pure ⟨rfl,h₅⟩)) fun _ _ h'=>h')) fun _ _ h'=>h'))
end
section
variable {A:Around} {s:Shared} {P:Addr->Prop} {I:Addr} {tgt:Expr} {fp wr:List Addr} {ds:List PV} {S:Nat->Heap->Prop}
theorem Itr.turn' (it:Itr A P I tgt fp wr ds S) {K:Value->Shared->Prop} {E:Value->Shared->Prop} {G:Option Value->Shared->Prop} {i:Nat} {d:PV}
  (hG:∀ v s₁,G (some v) s₁=wpAny (model prog w) A (letOwnedTupleGo tgt (.ref I) v) (fun _ s₂=>K v s₂) E s₁) (hd:ds[i]?=some d) (hS:S i s.heap)
  (hQ:∀ v h' tk,S (i+1) h'->Rd h' P d v->(∀ b o,b∉wr->s.heap.get? b=some o->h'.get? b=some o)->K v (up s (h') (tk))):
  wpAny (model prog w) A (pyNext (.ref I)) G E s:=
 wpAny_mono (it.turn i s K E d hd hS hQ) (fun r s₁ q=>by obtain ⟨v,rfl,q⟩:=q;rw [hG];exact q) fun _ _ e=>e
theorem Itr.done' (it:Itr A P I tgt fp wr ds S) {K:Shared->Prop} {E:Value->Shared->Prop} {G:Option Value->Shared->Prop}
  (hG:∀ s₁,G none s₁=K s₁) (hS:S ds.length s.heap) (hQ:∀ h' tk,(∀ b o,b∉wr->s.heap.get? b=some o->h'.get? b=some o)->K (up s (h') (tk))):
  wpAny (model prog w) A (pyNext (.ref I)) G E s:=
 wpAny_mono (it.done s K E hS hQ) (fun r s₁ q=>by obtain ⟨rfl,q⟩:=q;rw [hG];exact q) fun _ _ e=>e
end
section
variable {f:Fix} {cf:Nat->List PV->Res PV} {own:Addr->Option Nat} {ρ:Slots} {s:Shared}
theorem tests_false {M:Model} {A:Around} {env:Env} {Q:Bool->Shared->Prop} {E:Value->Shared->Prop} (h:Q false s):∀ (es:List Expr),
  wpAny M A (forIn es false fun c r=>if r=true then do let ok <-isTrue c env (eval c env);pure (ForInStep.yield ok) else pure (ForInStep.yield r)) Q E s
 | []=>wpAny_pure h
 | e::es=>by
  rw [List.forIn_cons]
  simp only [Bool.false_eq_true,if_false]
  exact wpAny_bind (wpAny_pure (tests_false h es))
theorem tests_sound (F:FixOk f) {Q:Bool->Shared->Prop} {E:Value->Shared->Prop} {es:List Expr} {l:List (PE×Cl)} (h:EachOK f cf es l):∀ {own:Addr->Option Nat} {ρ:Slots} {s:Shared},St f.c own ρ s->evAnd cf ρ (l.map (·.1))≠.stuck ->
  (∀ b s',evAnd cf ρ (l.map (·.1))=.ok b->Grow f.c.A s s'->Q b s') ->
  wpAny (model prog w) f.c.A (forIn es true fun c r=>if r=true then do let ok <-isTrue c f.c.env (eval c f.c.env);pure (ForInStep.yield ok) else pure (ForInStep.yield r)) Q E s:=by
 induction h with
 | nil=>exact fun {own ρ s} x _ hQ=>wpAny_pure (hQ true s rfl (Grow.refl s))
 | @cons e p k es l _ h1 h2 ih=>
  intro own ρ s x hn hQ
  have eq:evAnd cf ρ (((p,k)::l).map (·.1))=(ev cf ρ p).bind fun x=>match x with | .bool b=>if b then evAnd cf ρ (l.map (·.1)) else .ok false | _=>.stuck:=by rw [List.map_cons,evAndC];try rfl
  rw [eq] at hn hQ
  rw [List.forIn_cons]
  refine wpAny_bind (wpAny_bind (h1.use F x hn (fun d hd=>notBool_stuck d hd) fun b s₁ e1 e2 hn1 g1 x1=>wpAny_pure ?_))
  rw [e2] at hQ
  cases b with
  | true=>exact ih x1 hn1 fun b s' e3 g2=>hQ b s' e3 (g1.trans g2)
  | false=>exact tests_false (hQ false s₁ rfl g1) es
inductive Chg (A:Around) (C D:Addr) (wr:List Addr) (s s':Shared):Prop where
 | mk (h':Heap) (tk:Nat) (e:s'=(up s (h') (tk))) (k:∀ b o,s.heap.get? b=some o->b≠C->b≠D->b∉wr->(b∉frs A->h'.get? b=some o)/\∃ sl,h'.get? b=some { o with slots:=sl })
theorem Chg.refl {A:Around} {C D:Addr} {wr:List Addr}:Chg A C D wr s s:=⟨s.heap,s.toks,rfl,fun b o h _ _ _=>⟨fun _=>h,o.slots,h⟩⟩
theorem Chg.trans {A:Around} {C D:Addr} {wr:List Addr} {s' s'':Shared} (x:Chg A C D wr s s') (y:Chg A C D wr s' s''):Chg A C D wr s s'':=by
 obtain ⟨h1,t1,rfl,k1⟩:=x
 obtain ⟨h2,t2,rfl,k2⟩:=y
 refine ⟨h2,t2,rfl,fun b o hb h3 h4 h5=>?_⟩
 obtain ⟨a1,sl,a2⟩:=k1 b o hb h3 h4 h5
 refine ⟨fun hf=>(k2 b o (a1 hf) h3 h4 h5).1 hf,?_⟩
 obtain ⟨_,sl',a3⟩:=k2 b _ a2 h3 h4 h5
 exact ⟨sl',a3⟩
theorem Chg.plain {A:Around} {C D:Addr} {wr:List Addr} {h':Heap} {tk:Nat} (k:∀ b o,b≠C->b≠D->b∉wr->s.heap.get? b=some o->h'.get? b=some o):Chg A C D wr s (up s (h') (tk)):=
 ⟨h',tk,rfl,fun b o hb h3 h4 h5=>⟨fun _=>k b o h3 h4 h5 hb,o.slots,k b o h3 h4 h5 hb⟩⟩
theorem Chg.grow {A:Around} {C D:Addr} {wr:List Addr} {s':Shared} (g:Grow A s s'):Chg A C D wr s s':=by
 obtain ⟨h',tk,rfl,k⟩:=g
 exact ⟨h',tk,rfl,fun b o hb _ _ _=>k b o hb⟩
theorem comp_loop (F:FixOk f) {elt target iter:Expr} {ifs:List Expr} {scope:Scope} {pos:Pos} {a:PE} {k:Cl} {cs:List (PE×Cl)} {tg:Tgt} {D:Addr}
  (hev:EvOK f cf elt a k) (hk:k.inner=true) (hcs:EachOK f cf ifs cs) (ht:TgtAt f.c (fun b=>b=f.c.env.locals) target tg) (hD:own D=some dum) (hDh:f.c.h0.get? D=none) (hDC:D≠f.c.env.locals)
  {P:Addr->Prop} {I:Addr} {fp wr:List Addr} {ds:List PV} {S:Nat->Heap->Prop} (it:Itr f.c.A P I target fp wr ds S) (hP:∀ a,P a->Fz f.c own a) (hfp:∀ b∈fp,b∉frs f.c.A/\b≠f.c.env.locals/\b≠D) (hwr:∀ b∈wr,f.c.h0.get? b=none/\own b=none)
  (hlim:ds.length<=lim) {tot:List PV} {R:Result->Shared->Prop} (x0:St f.c own ρ s) (hS:S 0 s.heap) {vs0:Array Value} (hl0:SeqAt s.heap "list" D vs0) (hv0:vs0.toList=[])
  (hgo:compGo (fun ρ'=>ev cf ρ' a) (fun ρ'=>evAnd cf ρ' (cs.map (·.1))) tg ds ρ=.ok tot)
  (hR:∀ s' vs',(∃ m,s'.heap.Ns f.c.env.locals m)->SeqAt s'.heap "list" D vs'->Rds s'.heap (Fz f.c own) tot vs'.toList->tot.length<=ds.length->Chg f.c.A f.c.env.locals D wr s s'->R (.ok .next) s'):
  codeAny (model prog w) f.c.A (.compLoop (.ListComp elt [⟨target,iter,ifs,0⟩] scope pos) 0 (.ref I) (.ref D) f.c.env) R s:=by
 refine compLoop_own (fun n s'=>∃ i ρ' acc rest vs,n=ds.length+1-i/\i<=ds.length/\acc.length<=i/\St f.c own ρ' s'/\S i s'.heap/\SeqAt s'.heap "list" D vs/\Rds s'.heap (Fz f.c own) acc vs.toList /\
  compGo (fun ρ'=>ev cf ρ' a) (fun ρ'=>evAnd cf ρ' (cs.map (·.1))) tg (ds.drop i) ρ'=.ok rest/\tot=acc++rest/\Chg f.c.A f.c.env.locals D wr s s') ?_ (ds.length+1)
  ⟨0,ρ,[],tot,vs0,rfl,Nat.zero_le _,Nat.le_refl _,x0,hS,hl0,hv0,by simpa using hgo,rfl,.refl⟩
 rintro n s1 ⟨i,ρ1,acc,rest,vs,rfl,hi,hai,x1,hS1,hl1,hr1,hg1,rfl,hc1⟩
 have hrec:=it.rec_ i s1.heap hS1
 have hlive:=it.live i s1.heap hS1
 have hDwr:D∉wr:=fun hm=>(hfp D (it.sub D hm)).2.2 rfl
 have loose:Loose f.c own s1 (fun b=>b∈wr):=fun b hb=>by
  obtain ⟨o,vs,ho,hd⟩:=hrec b hb
  exact ⟨(hwr b hb).1,o,ho,.inl ⟨vs,hd⟩⟩
 rcases Nat.lt_or_ge i ds.length with hlt | hge
 ·have hd:ds[i]?=some ds[i]:=List.getElem?_eq_getElem hlt
  rw [List.drop_eq_getElem_cons hlt] at hg1
  generalize ds[i]=d at hd hg1
  simp only [compGo] at hg1
  refine it.turn' (fun _ _=>rfl) hd hS1 ?_
  intro v h2 tk2 hS2 hrd2 hk2
  have x2:St f.c own ρ1 (up s1 (h2) (tk2)):=x1.change F.ok loose (fun b hb ho=>absurd (hwr b hb).2 ho) fun b o hb=>hk2 b o hb
  have c2:Chg f.c.A f.c.env.locals D wr s1 (up s1 (h2) (tk2)):=.plain fun b o _ _ hb=>hk2 b o hb
  have hl2:SeqAt h2 "list" D vs:=hl1.to fun o n ho _ _=>hk2 D o hDwr ho
  have hr2:Rds h2 (Fz f.c own) acc vs.toList:=Rds.to (loose.kp hk2 fun a h=>fz_dum h) acc hr1
  have hns:setTgt tg d ρ1≠.stuck:=fun q=>by rw [q] at hg1;cases hg1
  refine tgt_store (fun b hb=>.inl hb) F.ok F.ok.handled ht x2 (Rd.imp (fun a _ _ _ p=>hP a p) d hrd2) hns fun ρ3 s3 e3 x3 st3=>?_
  rw [e3] at hg1
  simp only [Res.bind] at hg1
  have kp3:Kp P h2 s3.heap:=st3.kp x2 (fun b hb=>.inl hb) fun a p=>fz_dum (hP a p)
  have c3:Chg f.c.A f.c.env.locals D wr s1 s3:=by
   obtain ⟨h',tk,rfl,k⟩:=st3
   exact c2.trans (Chg.plain (s:=(up s1 (h2) (tk2))) fun b o hb _ _ ho=>k b o ho hb)
  have hS3:S (i+1) s3.heap:=it.frame _ _ _ hS2 (fun b hb o ho=>by
   obtain ⟨h',tk,rfl,k⟩:=st3
   exact k b o ho (hfp b hb).2.1) kp3
  have hl3:SeqAt s3.heap "list" D vs:=hl2.to fun o n ho _ _=>by
   obtain ⟨h',tk,rfl,k⟩:=st3
   exact k D o ho hDC
  have hr3:Rds s3.heap (Fz f.c own) acc vs.toList:=Rds.to (st3.kp x2 (fun b hb=>.inl hb) fun a p=>fz_dum p) acc hr2
  have hcn:evAnd cf ρ3 (cs.map (·.1))≠.stuck:=fun q=>by rw [q] at hg1;cases hg1
  have onGrow:∀ {sa sb:Shared},St f.c own ρ3 sa->Grow f.c.A sa sb->S (i+1) sa.heap->SeqAt sa.heap "list" D vs->Rds sa.heap (Fz f.c own) acc vs.toList ->
    S (i+1) sb.heap/\SeqAt sb.heap "list" D vs/\Rds sb.heap (Fz f.c own) acc vs.toList:=fun {sa sb} xa g a1 a2 a3=>by
   have kp:Kp (Fz f.c own) sa.heap sb.heap:=xa.kp (fun a h=>fz_dum h) g.h
   refine ⟨it.frame _ _ _ a1 (fun b hb o ho=>(g.h b o ho).1 (hfp b hb).1) (fun b o ho hm=>?_),?_,Rds.to kp acc a3⟩
   ·exact xa.kp (P:=P) (fun a h=>fz_dum (hP a h)) g.h b o ho hm
   ·exact a2.to fun o n ho _ hq=>(g.h D o ho).1 fun hf=>by
     obtain ⟨_,m,o',es,ep,ho',hd',_⟩:=xa.fr D hf
     rw [ho] at ho';cases ho';rw [hq] at hd';cases hd'
  refine tests_sound F hcs x3 hcn fun b s4 e4 g4=>?_
  rw [e4] at hg1
  simp only [] at hg1
  have x4:=x3.grow F.ok g4
  obtain ⟨hS4,hl4,hr4⟩:=onGrow x3 g4 hS3 hl3 hr3
  have c4:=c3.trans (Chg.grow g4)
  cases b with
  | false=>
   simp only [Bool.false_eq_true,if_false] at hg1 ⊢
   exact ⟨ds.length+1-(i+1),by exact o327 hi,i+1,ρ3,acc,rest,vs,rfl,hlt,by exact o53 hai,x4,hS4,hl4,hr4,hg1,rfl,hc1.trans c4⟩
  | true=>
   simp only [if_true] at hg1 ⊢
   have hen:(ev cf ρ3 a).bind (fun x=>(compGo (fun ρ'=>ev cf ρ' a) (fun ρ'=>evAnd cf ρ' (cs.map (·.1))) tg (ds.drop (i+1)) ρ3).bind fun xs=>Res.ok (x::xs))≠.stuck:=fun q=>by
    have q2:=hg1.symm.trans q;cases q2
   refine hev.use F x4 hen fun y v5 s5 e5 e6 hn5 g5 x5 r5=>?_
   have hg2:=e6.symm.trans hg1
   cases hq:compGo (fun ρ'=>ev cf ρ' a) (fun ρ'=>evAnd cf ρ' (cs.map (·.1))) tg (ds.drop (i+1)) ρ3 with
   | stuck=>rw [hq] at hg2;cases hg2
   | ok xs=>
    rw [hq] at hg2
    cases hg2
    obtain ⟨hS5,hl5,hr5⟩:=onGrow x4 g5 hS4 hl4 hr4
    obtain ⟨n5,hl5'⟩:=id hl5
    have hsz:vs.size<=sizeLine:=by
     have:=hr5.length
     rw [Array.length_toList] at this
     have:vs.size<=lim:=by exact o328 hlim hi hai this
     exact Nat.le_trans this (by decide)
    refine wpAny_list_append_plain ⟨n5,hl5'⟩ (fun h6 hl6 hs6=>?_) hsz
    obtain ⟨n6,hl6'⟩:=id hl6
    have looseD:Loose f.c own s5 (fun b=>b=D):=fun b hb=>by subst hb;exact ⟨hDh,_,hl5',.inr (.inl ⟨hD,_,_,rfl,rfl⟩)⟩
    have kD:∀ b o,¬ b=D->s5.heap.get? b=some o->h6.get? b=some o:=fun b o hb ho=>(hs6.2 b hb).trans ho
    have x6:St f.c own ρ3 (up s5 (h6) (s5.toks)):=x5.change F.ok looseD (fun b hb _=>⟨_,by subst hb;exact hl6'⟩) kD
    have kp6:Kp (Fz f.c own) s5.heap h6:=looseD.kp kD fun a h=>fz_dum h
    refine ⟨ds.length+1-(i+1),by exact o327 hi,i+1,ρ3,acc++[y],xs,vs.push v5,rfl,hlt,by simp;exact o55 hai,x6,?_,⟨n6,hl6'⟩,?_,hq,by simp,?_⟩
    ·exact it.frame _ _ _ hS5 (fun b hb o ho=>kD b o (hfp b hb).2.2 ho) (fun b o ho hm=>looseD.kp kD (P:=P) (fun a h=>fz_dum (hP a h)) b o ho hm)
    ·rw [Array.toList_push]
     exact Rds.append (Rds.to kp6 acc hr5) (Rds.one (Rd.to kp6 y (r5.rd x4 hk)))
    ·exact hc1.trans (c4.trans ((Chg.grow g5).trans (Chg.plain fun b o _ hb _ ho=>kD b o hb ho)))
 ·have hi':i=ds.length:=by exact o157 hi hge
  subst hi'
  rw [List.drop_length] at hg1
  simp only [compGo] at hg1
  cases hg1
  refine it.done' (fun _=>rfl) hS1 fun h2 tk2 hk2=>?_
  have x2:St f.c own ρ1 (up s1 (h2) (tk2)):=x1.change F.ok loose (fun b hb ho=>absurd (hwr b hb).2 ho) fun b o hb=>hk2 b o hb
  rw [List.append_nil] at hR
  exact hR _ vs x2.loc.2 (hl1.to fun o n ho _ _=>hk2 D o hDwr ho) (Rds.to (loose.kp hk2 fun a h=>fz_dum h) acc hr1) (by exact o55 hai) (hc1.trans (.plain fun b o _ _ hb=>hk2 b o hb))
end
end Mine.Internal
end
section
namespace Mine.Internal
open PySem PySem.Spec PyProof.Rows
theorem clr_get:∀ {t:Tgt} {ρ:Slots} {j:Nat} {d:PV},(clr t ρ)[j]?=some (some d)->ρ[j]?=some (some d)/\(match t with | .one i=>j≠i | .many is=>j∉is):=by
 intro t ρ j d h
 have one:∀ {ρ:Slots} {i:Nat},(ρ.set i none)[j]?=some (some d)->ρ[j]?=some (some d)/\j≠i:=fun {ρ i} h=>by
  rw [List.getElem?_set] at h
  split at h
  ·split at h<;>cases h
  ·rename_i q;exact ⟨h,fun z=>q z.symm⟩
 cases t with
 | one i=>exact one h
 | many is=>
  simp only [clr] at h ⊢
  induction is generalizing ρ with
  | nil=>exact ⟨h,by simp⟩
  | cons i is ih=>
   simp only [List.foldl_cons] at h
   obtain ⟨h1,h2⟩:=ih h
   obtain ⟨h3,h4⟩:=one h1
   exact ⟨h3,by simp [h2,h4]⟩
noncomputable def compTgt (t:TC) (one:Bool) (xs:List Str):Tgt:=if one then .one t.cbase else .many ((List.range xs.length).map (t.cbase+·))
theorem seqO_names:∀ {es:List Expr} {xs:List Str},seqO (es.map nameE)=some xs->∃ ps:List (Str×Pos),es=ps.map (fun p=>.Name p.1 p.2)/\xs=ps.map (·.1)
 | [],xs,h=>by cases h;exact ⟨[],rfl,rfl⟩
 | e::es,xs,h=>by
  cases e with
  | Name x pos=>
   simp only [List.map_cons,nameE,seqO] at h
   cases q:seqO (es.map nameE) with
   | none=>rw [q] at h;cases h
   | some ys=>
    rw [q] at h
    cases h
    obtain ⟨ps,h1,h2⟩:=seqO_names q
    exact ⟨(x,pos)::ps,by rw [h1];rfl,by rw [h2];rfl⟩
  | _=>cases h
theorem allAt_range {c:Cx} {N:Addr->Prop} {b:Nat}:∀ (ps:List (Str×Pos)) (k:Nat),(∀ j p,ps[j]?=some p->(p.1,b+(k+j))∈c.names/\b+(k+j)∉c.mv/\∀ a,PlaceOf c p.1 a->N a)->AllAt c N ps ((List.range' k ps.length).map (b+·))
 | [],k,_=>trivial
 | p::ps,k,h=>by
  refine ⟨h 0 p rfl,?_⟩
  refine allAt_range ps (k+1) fun j q hq=>?_
  have:=h (j+1) q (by simpa using hq)
  rwa [show k+(j+1)=k+1+j by exact o330] at this
section
variable {f:Fix} {cf:Nat->List PV->Res PV} {own:Addr->Option Nat} {ρ:Slots} {s:Shared}
theorem comp_tgt (F:FixOk f) {scope:Scope} {xs:List Str} {cl:List (Str×Addr)} {C:Addr} {target:Expr} {one:Bool} (ok:CompOk f.t scope.names xs) (h:tgtNames target=some (one,xs)):
  TgtAt (compFix f scope xs cl C).c (fun b=>b=C) target (compTgt f.t one xs):=by
 have base:∀ j x,xs[j]?=some x->(x,f.t.cbase+j)∈compSlots f.t scope.names xs/\f.t.cbase+j∉f.c.mv/\∀ a,PlaceOf (compFix f scope xs cl C).c x a->a=C:=fun j x hx=>by
  refine ⟨?_,fun hm=>?_,fun a ha=>?_⟩
  ·refine List.mem_append.mpr (.inl (List.mem_map.mpr ⟨(x,j),?_,rfl⟩))
   obtain ⟨h1,h2⟩:=List.getElem?_eq_some_iff.mp hx
   rw [List.mem_zipIdx_iff_getElem?];simpa using hx
  ·have:=F.mvb _ (F.mv ▸ hm);exact (o329 this).elim
  ·rcases ha with ⟨_,e⟩ | ⟨e,_⟩
   ·exact e
   ·have h1:(compFix f scope xs cl C).c.env.kindOf x=some .local:=lookup_relabel_local (ok.each x (List.mem_of_getElem? hx)).1
    rw [h1] at e;cases e
 cases target with
 | Name x pos=>
  cases h
  have:=base 0 x rfl
  exact .one this.1 this.2.1 this.2.2
 | Tuple es k pos=>
  simp only [tgtNames] at h
  cases q:seqO (es.map nameE) with
  | none=>rw [q] at h;cases h
  | some ys=>
   rw [q] at h
   cases h
   obtain ⟨ps,rfl,rfl⟩:=seqO_names q
   unfold compTgt
   rw [if_neg (by simp),List.range_eq_range',List.length_map]
   refine .many (allAt_range ps 0 fun j p hp=>?_)
   rw [Nat.zero_add]
   exact base j p.1 (by simp [hp])
 | _=>cases h
theorem compTgt_out {t:TC} {one:Bool} {xs:List Str} {target:Expr} (h:tgtNames target=some (one,xs)) {j:Nat} (hj:t.cbase<=j) (hj':j < t.cbase+xs.length):¬ (match compTgt t one xs with | .one i=>j≠i | .many is=>j∉is):=by
 cases target with
 | Name x pos=>cases h;simp [compTgt];simp at hj';exact o54 hj hj'
 | Tuple es k pos=>
  simp only [tgtNames] at h
  cases q:seqO (es.map nameE) with
  | none=>rw [q] at h;cases h
  | some ys=>
   rw [q] at h;cases h
   simp only [compTgt,Bool.false_eq_true,if_false,List.mem_map,List.mem_range]
   exact fun q=>q ⟨j-t.cbase,by exact o331 hj hj',by exact o21 hj⟩
 | _=>cases h
theorem comp_st (F:FixOk f) {scope:Scope} {xs:List Str} {cl:List (Str×Addr)} {C D:Addr} {one:Bool} {target:Expr} (htn:tgtNames target=some (one,xs)) (ok:CompOk f.t scope.names xs) (hcl:Clo f.c.env scope.names cl) (x:St f.c own ρ s)
  {h':Heap} {tk:Nat} (hk:∀ b o,s.heap.get? b=some o->h'.get? b=some o) (hC:s.heap.get? C=none) (hD:s.heap.get? D=none) {m:Str->Option Value} (hn:h'.Ns C m) (hDo:∃ o,h'.get? D=some o):
  St (compFix f scope xs cl C).c (fun a=>if a=C\/a=D then some dum else own a) (clr (compTgt f.t one xs) ρ) (up s (h') (tk)):=by
 have up:∀ a i,own a=some i->(if a=C\/a=D then some dum else own a)=some i\/s.heap.get? a=none:=fun a i h=>by
  by_cases e:a=C\/a=D
  ·right;rcases e with rfl | rfl<;>assumption
  ·left;rw [if_neg e];exact h
 have down:∀ {a o},s.heap.get? a=some o->¬ (a=C\/a=D):=fun {a o} h q=>by rcases q with rfl | rfl<;>simp_all
 refine ⟨fun b o hb=>?_,fun a ha=>?_,⟨?_,m,hn⟩,x.newBase hC,fun n a h=>?_,fun n a h=>?_,fun a h=>?_,fun a i h hi=>?_,fun y i d hm hd=>?_⟩
 ·obtain ⟨h1,sl,h2⟩:=x.base b o hb
  exact ⟨fun hf=>hk _ _ (h1 hf),sl,hk _ _ h2⟩
 ·obtain ⟨h1,m',o,es,ep,ho,r⟩:=x.fr a ha
  exact ⟨by rw [if_neg (down ho)];exact h1,m',o,es,ep,hk _ _ ho,r⟩
 ·show (if C=C\/C=D then some dum else own C)=some dum
  simp
 ·obtain ⟨v,o,ho,hd⟩:=x.cell n a (hcl.to n a h)
  exact ⟨v,o,hk _ _ ho,hd⟩
 ·exact x.cellNew n a (hcl.to n a h)
 ·by_cases e:a=C\/a=D
  ·rcases e with rfl | rfl
   ·obtain ⟨o,_,_,ho,_⟩:=hn;exact ⟨o,ho⟩
   ·exact hDo
  ·rw [if_neg e] at h
   obtain ⟨o,ho⟩:=x.ownIn a h
   exact ⟨o,hk _ _ ho⟩
 ·split at h
  ·cases h;exact absurd hi F.ok.dumNot
  ·exact x.ownNew a i h hi
 ·obtain ⟨hd1,hd2⟩:=clr_get hd
  rcases compSlots_cell hm with ⟨_,h1,h2⟩ | ⟨h1,h2,h3⟩
  ·exact absurd hd2 (compTgt_out htn h1 h2)
  ·obtain ⟨v,hv,hr⟩:=x.vars y i d (F.names ▸ h1) hd1
   have hne:∀ p∈scope.names,p.2≠.cell:=fun p hp q=>by rcases ok.kinds p hp with h | h | h<;>simp [q] at h
   obtain ⟨h4,h5⟩:=compNames_cell h3 hne
   have hko:f.c.env.kindOf y=some .cell:=by show f.c.env.scope.names.lookup y=_;rw [F.scope];exact h5
   refine ⟨v,?_,?_⟩
   ·rcases hv with ⟨k1,_⟩ | ⟨k1,a,hl,o,ho,hq⟩
    ·rw [hko] at k1;cases k1
    ·obtain ⟨a',ha'⟩:=hcl.has y h4
     have:=hcl.to y a' ha'
     rw [hl] at this;cases this
     refine .inr ?_ a ha' ⟨o,hk _ _ ho,hq⟩
     show (relabel scope f.c.env).names.lookup y=_
     rw [relabel_names F];exact h3
   ·have kp:∀ {P:Addr->Prop},Kp P s.heap h':=fun b o ho _=>hk b o ho
    unfold VRd at hr ⊢
    split at hr
    ·rename_i hi
     rw [if_pos (show i∈(compFix f scope xs cl C).c.mv from hi)]
     refine RdO.to kp kp (RdO.imp (fun a o ho _ p=>?_) (fun a o ho _ p=>⟨p.1,?_⟩) hr)
     ·simp only [if_neg (down ho)];exact p
     ·simp only [if_neg (down ho)];exact p.2
    ·rename_i hi
     rw [if_neg (show i∉(compFix f scope xs cl C).c.mv from hi)]
     refine Rd.to kp d (Rd.imp (fun a o ho _ p=>⟨p.1,?_⟩) d hr)
     simp only [if_neg (down ho)];exact p.2
theorem comp_block (F:FixOk f) {elt target iter:Expr} {ifs:List Expr} {scope:Scope} {pos:Pos} {xs:List Str} {cl:List (Str×Addr)} {one:Bool} (hkd:scope.kind=.function) (htn:tgtNames target=some (one,xs)) (ok:CompOk f.t scope.names xs) (hcl:Clo f.c.env scope.names cl)
  {a:PE} {k:Cl} {cs:List (PE×Cl)} (hk:k.inner=true) (hev:∀ C,EvOK (compFix f scope xs cl C) cf elt a k) (hcs:∀ C,EachOK (compFix f scope xs cl C) cf ifs cs)
  (x:St f.c own ρ s) {I:Addr} {fp wr:List Addr} {ds:List PV} {S:Nat->Heap->Prop} (it:Itr f.c.A (fun a=>Fz f.c own a/\∃ o,s.heap.get? a=some o) I target fp wr ds S) (hS:S 0 s.heap) (hlim:ds.length<=lim)
  (hfp:∀ b∈fp,b∉frs f.c.A/\b≠f.c.env.locals) (hwr:∀ b∈wr,f.c.h0.get? b=none/\own b=none) {tot:List PV}
  (hgo:compGo (fun ρ'=>ev cf ρ' a) (fun ρ'=>evAnd cf ρ' (cs.map (·.1))) (compTgt f.t one xs) ds (clr (compTgt f.t one xs) ρ)=.ok tot) {E:Value->Shared->Prop} {RR:Value->Addr->Result->Shared->Prop}
  (hR:∀ C D s' vs',s.heap.get? C=none->s.heap.get? D=none->D≠C->(∃ m,s'.heap.Ns C m)->SeqAt s'.heap "list" D vs'->Rds s'.heap (fun b=>Fz f.c own b/\b≠C/\b≠D) tot vs'.toList->tot.length<=lim->Chg f.c.A C D wr s s'->RR (.ref D) C (.ok .next) s'):
  wpAny (model prog w) f.c.A (newList []) (fun acc s₃=>wpAny (model prog w) f.c.A (newFunctionEnv scope f.c.env.globals cl [] f.c.env.qual none .none (some f.c.env)) (fun cenv s₄=>
   codeAny (model prog w) f.c.A (.compStart (.ListComp elt [⟨target,iter,ifs,0⟩] scope pos) 0 (.ref I) acc { cenv with scope:=relabel scope f.c.env }) (RR acc cenv.locals) s₄) E s₃) E s:=by
 have hcell:∀ y∈scope.names,y.2≠.cell:=fun p hp q=>by rcases ok.kinds p hp with h | h | h<;>simp [q] at h
 refine wpAny_newObj_type (wpAny_newFunctionEnv hcell (by intro y hy;simp at hy) (fun h₁ hns₁ hsb₁=>?_) hkd)
 dsimp only at hns₁ hsb₁ ⊢
 generalize hH2:s.heap.push { cls:=.type "list",dict:=none,data:=.seq ([]:List Value).toArray }=H2 at hns₁ hsb₁ ⊢
 have hC:H2.objs.size=s.heap.objs.size+1:=by rw [<-hH2,Heap.size_push]
 have hDC:s.heap.objs.size≠H2.objs.size:=by rw [hC];exact Nat.ne_of_lt (Nat.lt_succ_self _)
 have below:∀ b,b < s.heap.objs.size->b≠H2.objs.size/\b≠s.heap.objs.size:=fun b hb=>⟨by rw [hC];exact Nat.ne_of_lt (Nat.lt_succ_of_lt hb),Nat.ne_of_lt hb⟩
 have old:∀ b o,s.heap.get? b=some o->h₁.get? b=some o:=fun b o e=>hsb₁.extBut b o (below b (Heap.lt_size e)).1 (Heap.get?_push_of_some _ (hH2 ▸ Heap.get?_push_of_some _ e))
 have hacc:SeqAt h₁ "list" s.heap.objs.size #[]:=⟨0,hsb₁.extBut _ _ hDC (Heap.get?_push_of_some _ (hH2 ▸ Heap.get?_push_size _ rfl))⟩
 have fresh:∀ a,s.heap.objs.size<=a->s.heap.get? a=none:=fun a ha=>by
  cases e:s.heap.get? a with
  | none=>rfl
  | some o'=>exact absurd (Heap.lt_size e) (Nat.not_lt.mpr ha)
 have newD:=fresh s.heap.objs.size (Nat.le_refl _)
 have newC:=fresh H2.objs.size (by rw [hC];exact Nat.le_succ _)
 generalize H2.objs.size=C at *
 generalize s.heap.objs.size=D at *
 have Fx:=compFix_ok F (C:=C) hkd ok hcl
 have x1:=comp_st F (C:=C) (D:=D) (tk:=s.toks+([]:List (Str×Value)).length) htn ok hcl x old newC newD hns₁ (let ⟨n,q⟩:=hacc;⟨_,q⟩)
 have hS1:S 0 h₁:=it.frame _ _ _ hS (fun b _ o e=>old b o e) fun b o e _=>old b o e
 have live:=it.live 0 s.heap hS
 have nfp:∀ b∈fp,b≠C/\b≠D:=fun b hb=>by
  obtain ⟨o,ho,_⟩:=live b hb
  exact ⟨fun e=>by (rw [e,newC] at ho;cases ho),fun e=>by (rw [e,newD] at ho;cases ho)⟩
 have loop:∀ s₃:Shared,s₃={ s with heap:=h₁,toks:=s.toks+([]:List (Str×Value)).length } ->
   codeAny (model prog w) f.c.A (.compLoop (.ListComp elt [⟨target,iter,ifs,0⟩] scope pos) 0 (.ref I) (.ref D) (compEnvC scope cl C f.c.env)) (RR (.ref D) C) s₃:=by
  rintro s₃ rfl
  refine comp_loop (f:=compFix f scope xs cl C) (own:=fun a=>if a=C\/a=D then some dum else own a) (D:=D) Fx (hev C) hk (hcs C) (comp_tgt F ok htn) (by simp) (x.newBase newD) hDC it (fun a p=>⟨p.1.1,?_⟩) (fun b hb=>⟨(hfp b hb).1,nfp b hb⟩) (fun b hb=>⟨(hwr b hb).1,?_⟩) hlim x1 hS1 hacc rfl hgo fun s' vs' hns hl hr hlen hch=>?_
  ·obtain ⟨o,ho⟩:=p.2
   have:¬ (a=C\/a=D):=fun q=>by rcases q with rfl | rfl<;>simp_all
   simp only [if_neg this];exact p.1.2
  ·have:=nfp b (it.sub b hb)
   simp only [if_neg (not_or.mpr this)];exact (hwr b hb).2
  ·refine hR C D s' vs' newC newD hDC hns hl (Rds.imp (fun b o ho _ p=>?_) tot hr) (Nat.le_trans hlen hlim) ?_
   ·have:¬ (b=C\/b=D):=fun q=>by have:=p.2;simp only [if_pos q] at this;cases this
    refine ⟨⟨p.1,?_⟩,fun e=>this (.inl e),fun e=>this (.inr e)⟩
    have:=p.2;simp only [if_neg ‹¬ (b=C\/b=D)›] at this;exact this
   ·exact (Chg.plain fun b o _ _ _ ho=>old b o ho).trans hch
 exact codeAny_compStart_list (loop _ rfl) (it.self 0 _ _ _ hS1 (loop _ rfl))
end
end Mine.Internal
end
section
namespace Mine.Internal
open PySem PySem.Spec PyProof.Rows
section
variable {c:Cx} {own:Addr->Option Nat} {ρ:Slots} {s s':Shared}
theorem St.claim (ok:CxOk c) (x:St c own ρ s) (g:Grow c.A s s') {own':Addr->Option Nat} (hs:∀ a o,s.heap.get? a=some o->own' a=own a) (hin:∀ a,own' a≠none->∃ o,s'.heap.get? a=some o):St c own' ρ s' where
 base:=x.base.trans g.h
 fr:=fun a ha=>by
  obtain ⟨h1,m,hm⟩:=x.fr a ha
  obtain ⟨o,_,_,ho,_⟩:=id hm
  exact ⟨(hs a o ho).trans h1,m,g.h.ns hm⟩
 loc:=by
  obtain ⟨h1,m,hm⟩:=x.loc
  obtain ⟨o,_,_,ho,_⟩:=id hm
  exact ⟨(hs _ o ho).trans h1,m,g.h.ns hm⟩
 locNew:=x.locNew
 cell:=fun n a h=>let ⟨v,hv⟩:=x.cell n a h;⟨v,g.h.cell hv⟩
 cellNew:=x.cellNew
 ownIn:=hin
 ownNew:=fun a i h hi=>by
  cases q:s.heap.get? a with
  | none=>exact x.newBase q
  | some o=>exact x.ownNew a i ((hs a o q).symm.trans h) hi
 vars:=fun y i d hm hd=>by
  obtain ⟨v,hv,hr⟩:=x.vars y i d hm hd
  refine ⟨v,hv.grow g.h,?_⟩
  have h2:VRd s'.heap c own i d v:=hr.kp (x.kp (fun a h=>fz_dum h) g.h) fun hi=>x.kp (fun a h e=>by rw [h] at e;cases e;exact ok.dumNot hi) g.h
  unfold VRd at hr h2 ⊢
  split
  ·rename_i hi
   rw [if_pos hi] at hr
   refine RdO.to (fun a o ho hm=>?_) (fun a o ho hm=>?_) (RdO.imp (O':=fun a=>own' a=some i) (P':=Fz c own') (fun a o ho _ p=>(hs a o ho).trans p) (fun a o ho _ p=>⟨p.1,(hs a o ho).trans p.2⟩) hr)
   ·refine x.kp (P:=Fz c own) (fun a h=>fz_dum h) g.h a o ho ?_
    rcases hm with ⟨vs,n,h1,h3⟩ | ⟨es,n,h1,h3,h4⟩
    ·exact .inl ⟨vs,n,h1,h3.imp id fun h=>⟨⟨h.1.1,(hs a o ho).symm.trans h.1.2⟩,h.2⟩⟩
    ·exact .inr ⟨es,n,h1,⟨h3.1,(hs a o ho).symm.trans h3.2⟩,h4⟩
   ·refine x.kp (P:=fun a=>own a=some i) (fun a h e=>by rw [h] at e;cases e;exact ok.dumNot hi) g.h a o ho ?_
    rcases hm with ⟨vs,n,h1,h3⟩ | ⟨es,n,h1,h3,h4⟩
    ·exact .inl ⟨vs,n,h1,h3.imp id fun h=>⟨(hs a o ho).symm.trans h.1,h.2⟩⟩
    ·exact .inr ⟨es,n,h1,(hs a o ho).symm.trans h3,h4⟩
  ·rename_i hi
   rw [if_neg hi] at hr
   refine Rd.to (fun a o ho hm=>?_) d (Rd.imp (P':=Fz c own') (fun a o ho _ p=>⟨p.1,(hs a o ho).trans p.2⟩) d hr)
   refine x.kp (P:=Fz c own) (fun a h=>fz_dum h) g.h a o ho ?_
   rcases hm with ⟨vs,n,h1,h3⟩ | ⟨es,n,h1,h3,h4⟩
   ·exact .inl ⟨vs,n,h1,h3.imp id fun h=>⟨⟨h.1.1,(hs a o ho).symm.trans h.1.2⟩,h.2⟩⟩
   ·exact .inr ⟨es,n,h1,⟨h3.1,(hs a o ho).symm.trans h3.2⟩,h4⟩
end
section
variable {f:Fix} {cf:Nat->List PV->Res PV} {own:Addr->Option Nat} {ρ:Slots} {s:Shared}
theorem noExc_bind {α β:Type} {r:Res α} {g:α->Res β} (h:(noExc r).bind g≠.stuck):∃ a,r=.ok a:=by
 cases r with
 | ok a=>exact ⟨a,rfl⟩
 | stuck=>exact absurd rfl h
theorem comp_run (F:FixOk f) {elt target iter:Expr} {ifs:List Expr} {scope:Scope} {pos p0:Pos} {xs:List Str} {one:Bool} (hkd:scope.kind=.function) (htn:tgtNames target=some (one,xs)) (ok:CompOk f.t scope.names xs)
  {a:PE} {k cl0:Cl} {kk:ItK} {src:List PE} {cs:List (PE×Cl)} (hk:k.inner=true) (hev:∀ cl C,Clo f.c.env scope.names cl->EvOK (compFix f scope xs cl C) cf elt a k) (hcs:∀ cl C,Clo f.c.env scope.names cl->EachOK (compFix f scope xs cl C) cf ifs cs)
  (hit:ItOK f cf (!one) iter kk src cl0) (x:St f.c own ρ s) (hn:ev cf ρ (.comp a (compTgt f.t one xs) kk src (cs.map (·.1)))≠.stuck)
  {use:Option (Value->Sem Unit)} {Q:Value->Shared->Prop} {E:Value->Shared->Prop}
  (hQ:∀ C D s' l vs,ev cf ρ (.comp a (compTgt f.t one xs) kk src (cs.map (·.1)))=.ok (.list l)->s.heap.get? C=none->s.heap.get? D=none->D≠C->(∃ m,s'.heap.Ns C m)->SeqAt s'.heap "list" D vs->l.length<=lim ->
   Rds s'.heap (fun b=>Fz f.c own b/\b≠C/\b≠D) l vs.toList->Grow f.c.A s s'->St f.c own ρ s'->compPost (model prog w) f.c.A E use Q (.ref D) C (.ok .next) s'):
  wpAny (model prog w) f.c.A (comprehension (.ListComp elt [⟨target,iter,ifs,0⟩] scope pos) scope f.c.env p0 (newList []) false (eval iter f.c.env) use) Q E s:=by
 have hfree:∀ p∈scope.names,p.2=.free->∃ a,f.c.env.cells.lookup p.1=some a:=fun p hp hq=>by
  rcases ok.kinds p hp with h | h | ⟨_,h,i,hi⟩
  ·rw [hq] at h;cases h
  ·rw [hq] at h;cases h
  ·rcases F.ok.kinds p.1 i (F.names ▸ hi) with h1 | h1
   ·have:f.c.env.kindOf p.1=some .cell:=by show f.c.env.scope.names.lookup p.1=_;rw [F.scope];exact h
    rw [this] at h1;cases h1
   ·exact h1.2
 have hclo:=clo_ok (scope:=scope) (env:=f.c.env) ok.keys F.ok.apart hfree
 have ht:tgtOk target=true:=by
  cases target with
  | Name _ _=>rfl
  | Tuple _ _ _=>rfl
  | _=>cases htn
 have htup:(!one)=true->∃ elts k pos,target=.Tuple elts k pos:=fun h=>by
  cases target with
  | Name _ _=>cases htn;cases h
  | Tuple _ _ _=>exact ⟨_,_,_,rfl⟩
  | _=>cases htn
 simp only [vE22] at hn hQ
 have asc:((evs cf ρ src).bind fun xs'=>(items kk xs').bind fun ds=>(noExc (compGo (fun ρ'=>ev cf ρ' a) (fun ρ'=>evAnd cf ρ' (cs.map (·.1))) (compTgt f.t one xs) ds (clr (compTgt f.t one xs) ρ))).bind mkL) =
   ((evs cf ρ src).bind (items kk)).bind fun ds=>(noExc (compGo (fun ρ'=>ev cf ρ' a) (fun ρ'=>evAnd cf ρ' (cs.map (·.1))) (compTgt f.t one xs) ds (clr (compTgt f.t one xs) ρ))).bind mkL:=by cases evs cf ρ src<;>rfl
 rw [asc] at hn hQ
 have hni:((evs cf ρ src).bind (items kk))≠.stuck:=fun q=>hn (by rw [q];rfl)
 refine wpAny_comprehension_free (g:=⟨target,iter,ifs,0⟩) (gs:=[]) rfl (hit.1 f.c.env) (clo_eq hfree) hkd (fun y hy hl=>lookup_of_mem ok.keys (by rw [<-hl];exact hy)) ?_
 refine wpAny_mono (hit.2 htup ht x hni) (fun xv s₁ q=>wpAny_mono q (fun it s₂ q=>?_) fun _ _ q=>q.elim) fun _ _ q=>q.elim
 obtain ⟨ds,I,fp,wr,S,e1,rfl,itr,hS0,g,hwr,_,hlim,hfp⟩:=q
 rw [e1] at hn hQ
 rw [bindK] at hn
 obtain ⟨tot,htot⟩:=noExc_bind hn
 have x2:=x.grow F.ok g
 refine comp_block (RR:=fun acc C=>compPost (model prog w) f.c.A E use Q acc C) F hkd htn ok hclo hk (fun C=>hev _ C hclo) (fun C=>hcs _ C hclo) x2 itr hS0 hlim hfp (fun b hb=>⟨x.newBase (hwr b hb),x.newOwn (hwr b hb)⟩) htot fun C D s' vs' hC hD hDC hns hl hr hlen hch=>?_
 have g2:Grow f.c.A s s':=by
  obtain ⟨h1,t1,rfl,k1⟩:=g
  obtain ⟨h2,t2,rfl,k2⟩:=hch
  refine ⟨h2,t2,rfl,fun b o hb=>?_⟩
  obtain ⟨a1,sl,a2⟩:=k1 b o hb
  have hbC:b≠C:=fun e=>by rw [e] at hb;rw [GrowH.none k1 (show h1.get? C=none from hC)] at hb;cases hb
  have hbD:b≠D:=fun e=>by rw [e] at hb;rw [GrowH.none k1 (show h1.get? D=none from hD)] at hb;cases hb
  have hbw:b∉wr:=fun e=>by rw [hwr b e] at hb;cases hb
  obtain ⟨_,sl',a3⟩:=k2 b _ a2 hbC hbD hbw
  exact ⟨fun hf=>(k2 b _ (a1 hf) hbC hbD hbw).1 hf,sl',a3⟩
 refine hQ C D s' tot vs' ?_ (g.h.none hC) (g.h.none hD) hDC hns hl hlen hr g2 (x.grow F.ok g2)
 show (noExc (compGo _ _ _ ds _)).bind mkL=_
 rw [htot]
 show mkL tot=_
 unfold mkL
 rw [if_pos hlen]
theorem comp_sound (F:FixOk f) {elt target iter:Expr} {ifs:List Expr} {scope:Scope} {pos:Pos} {xs:List Str} {one:Bool} (hkd:scope.kind=.function) (htn:tgtNames target=some (one,xs)) (ok:CompOk f.t scope.names xs)
  {a:PE} {k cl0:Cl} {kk:ItK} {src:List PE} {cs:List (PE×Cl)} (hk:k.inner=true) (hev:∀ cl C,Clo f.c.env scope.names cl->EvOK (compFix f scope xs cl C) cf elt a k) (hcs:∀ cl C,Clo f.c.env scope.names cl->EachOK (compFix f scope xs cl C) cf ifs cs)
  (hit:ItOK f cf (!one) iter kk src cl0):
  EvOK f cf (.ListComp elt [⟨target,iter,ifs,0⟩] scope pos) (.comp a (compTgt f.t one xs) kk src (cs.map (·.1))) .fresh:=by
 intro own ρ s x hn
 rw [eval_ListComp]
 refine comp_run (use:=none) F hkd htn ok hk hev hcs hit x hn fun C D s' l vs e1 hC hD hDC hns hl hlen hr g x'=>?_
 obtain ⟨m,hm⟩:=hns
 refine ⟨m,hm,fun h' hs=>⟨.list l,e1,?_,?_⟩⟩
 ·obtain ⟨h1,t1,rfl,k1⟩:=g
  refine ⟨h',t1,rfl,fun b o hb=>?_⟩
  have hbC:b≠C:=fun e=>by rw [e,hC] at hb;cases hb
  obtain ⟨a1,sl,a2⟩:=k1 b o hb
  exact ⟨fun hf=>(hs.2 b hbC).trans (a1 hf),sl,(hs.2 b hbC).trans a2⟩
 ·obtain ⟨o,es,ep,ho,hd,_⟩:=hm
  have kp:Kp (fun b=>Fz f.c own b/\b≠C/\b≠D) s'.heap h':=fun b o' ho' hm'=>by
   have:b≠C:=fun e=>by
    rw [e,ho] at ho';cases ho'
    rcases hm' with ⟨_,_,hd',_⟩ | ⟨_,_,_,hp,_⟩
    ·rw [hd] at hd';cases hd'
    ·exact hp.2.1 e
   exact (hs.2 b this).trans ho'
  exact ⟨D,vs,rfl,hD,hl.to (fun o n ho _ _=>(hs.2 D hDC).trans ho),hlen,Rds.imp (fun b o ho _ p=>⟨p.1,fun q=>by injection q with q;exact p.2.2 q.symm⟩) l (Rds.to kp l hr)⟩
end
end Mine.Internal
end
section
namespace Mine.Internal
open PySem PySem.Spec PyProof.Rows
section
variable {cf:Nat->List PV->Res PV}
theorem ite_test {f:Fix} (F:FixOk f) {c a b:Expr} {pos:Pos} {pc pa pb:PE} (hc:TrOK f cf c pc) (ha:TrOK f cf a pa) (hb:TrOK f cf b pb):TrOK f cf (.IfExp c a b pos) (.ite pc pa pb):=by
 intro own ρ s x hn hbo
 show wpAny _ _ (do if <-isTrue c f.c.env (eval c f.c.env) then isTrue a f.c.env (eval a f.c.env) else isTrue b f.c.env (eval b f.c.env)) _ _ s
 simp only [vE13] at hn hbo ⊢
 refine wpAny_bind (hc.use F x hn (fun d hd=>by cases d<;>first | rfl | exact absurd rfl (hd _)) fun t s₁ e1 e2 hn1 g1 x1=>?_)
 rw [e2] at hbo ⊢
 cases t with
 | true=>
  simp only [if_true] at hn1 hbo ⊢
  refine wpAny_mono (ha own ρ s₁ x1 hn1 hbo) (fun b s' q=>⟨q.1,g1.trans q.2⟩) fun _ _ q=>q.elim
 | false=>
  simp only [Bool.false_eq_true,if_false] at hn1 hbo ⊢
  refine wpAny_mono (hb own ρ s₁ x1 hn1 hbo) (fun b s' q=>⟨q.1,g1.trans q.2⟩) fun _ _ q=>q.elim
end
end Mine.Internal
end
section
set_option backward.eqns.nonrecursive false
namespace Mine.Internal
open PySem PySem.Spec PyProof.Rows
noncomputable def All (t:TC) (P:(cf:Nat->List PV->Res PV)->Fix->Prop):Prop:=
 ∀ cf f,FixOk f->f.t=t->CF f.B f.fa f.t.G cf f.D->P cf f
noncomputable def Ok (t:TC) (e:Expr) (p:PE) (k:Cl):Prop:=All t fun cf f=>EvOK f cf e p k/\TrOK f cf e p
noncomputable def Each (t:TC) (es:List Expr) (l:List (PE×Cl)):Prop:=All t fun cf f=>EachOK f cf es l
noncomputable def It (t:TC) (tup:Bool) (e:Expr) (r:ItK×List PE×Cl):Prop:=All t fun cf f=>ItOK f cf tup e r.1 r.2.1 r.2.2
abbrev TE (t:TC) (e:Expr):Type:=Option { a:PE×Cl // Ok t e a.1 a.2 }
theorem Ok.val {t:TC} {e:Expr} {p:PE} {k:Cl} (ho:∀ env whole,isTrue e env whole=(do let v <-whole;standAt e.pos;holding [v] (truthy v))) (h:All t fun cf f=>EvOK f cf e p k):Ok t e p k:=
 fun cf f F ht C=>⟨h cf f F ht C,.ofValue (h cf f F ht C) ho⟩
theorem Ok.con {t:TC} {c:Const} {kd:Nat} {pos:Pos} {d:PV} (h:cOf c=some d):Ok t (.Constant c kd pos) (.const d) .safe:=.val (fun _ _=>rfl) fun _ _ _ _ _=>const_sound h
theorem Ok.vr {t:TC} {x:Str} {pos:Pos} {i:Nat} (hd:(x==("__debug__" : Str))=false) (hi:t.slot x=some i):Ok t (.Name x pos) (.var i) (if i∈t.mv then .own else .safe):=.val (fun _ _=>rfl) fun _ _ F ht _=>by subst ht;exact name_var F hd hi
theorem Ok.gl {t:TC} {x:Str} {pos:Pos} {d:PV} (hd:(x==("__debug__" : Str))=false) (hg:t.glob x=true) (hl:t.G.lookup x=some (.const d)):Ok t (.Name x pos) (.const d) .safe:=.val (fun _ _=>rfl) fun _ _ F ht _=>by subst ht;exact name_const F hd hg hl
theorem Ok.bop {t:TC} {op:BoolOp} {es:List Expr} {l:List (PE×Cl)} {pos:Pos} (h:Each t es l) (he:es≠[]):Ok t (.BoolOp op es pos) (if op=.And then .and (l.map (·.1)) else .or (l.map (·.1))) .safe:=fun _ _ F ht C=>boolop_sound F (h _ _ F ht C) he
theorem Ok.bin {t:TC} {l r:Expr} {op:Operator} {pos:Pos} {a b:PE×Cl} {o:BOp} (ha:Ok t l a.1 a.2) (hb:Ok t r b.1 b.2) (ho:bopOf op=some o) (ht:(a.2.top&&b.2.top)=true):Ok t (.BinOp l op r pos) (.bin o a.1 b.1) .fresh:=.val (fun _ _=>rfl) fun _ _ F h C=>bin_sound F (ha _ _ F h C).1 (hb _ _ F h C).1 ho ht
theorem Ok.not {t:TC} {x:Expr} {pos:Pos} {a:PE×Cl} (ha:Ok t x a.1 a.2):Ok t (.UnaryOp .Not x pos) (.not a.1) .safe:=fun _ _ F h C=>⟨not_sound F (ha _ _ F h C).1,not_test F (ha _ _ F h C).2⟩
theorem Ok.neg {t:TC} {x:Expr} {pos:Pos} {a:PE×Cl} (ha:Ok t x a.1 a.2):Ok t (.UnaryOp .USub x pos) (.neg a.1) .safe:=.val (fun _ _=>rfl) fun _ _ F h C=>neg_sound F (ha _ _ F h C).1
theorem Ok.ite {t:TC} {c a b:Expr} {pos:Pos} {pc pa pb:PE×Cl} (hc:Ok t c pc.1 pc.2) (ha:Ok t a pa.1 pa.2) (hb:Ok t b pb.1 pb.2) (hi:(pa.2.inner&&pb.2.inner)=true):Ok t (.IfExp c a b pos) (.ite pc.1 pa.1 pb.1) .safe:=
 fun _ _ F h C=>⟨ite_sound F (hc _ _ F h C).2 (ha _ _ F h C).1 (hb _ _ F h C).1 hi,ite_test F (hc _ _ F h C).2 (ha _ _ F h C).2 (hb _ _ F h C).2⟩
theorem Ok.tup {t:TC} {es:List Expr} {l:List (PE×Cl)} {kd:Nat} {pos:Pos} (hs:es.any starred=false) (h:Each t es l):Ok t (.Tuple es kd pos) (.tup (l.map (·.1))) (clsJoin (l.map (·.2))):=.val (fun _ _=>rfl) fun _ _ F ht C=>tup_sound F (h _ _ F ht C) hs
theorem Ok.tupf {t:TC} {es:List Expr} {l:List (PE×Cl)} {kd:Nat} {pos:Pos} (hs:es.any starred=false) (h:Each t es l) (hc:clsJoin (l.map (·.2))=.safe):Ok t (.Tuple es kd pos) (.tup (l.map (·.1))) .fresh:=.val (fun _ _=>rfl) fun _ _ F ht C=>tup_fresh (hc ▸ tup_sound F (h _ _ F ht C) hs)
theorem Ok.lst {t:TC} {es:List Expr} {l:List (PE×Cl)} {pos:Pos} (hs:es.any starred=false) (h:Each t es l) (hc:clsJoin (l.map (·.2))=.safe):Ok t (.List es pos) (.lst (l.map (·.1))) .fresh:=.val (fun _ _=>rfl) fun _ _ F ht C=>lst_sound F (h _ _ F ht C) hs hc
theorem Ok.dct {t:TC} {pos:Pos}:Ok t (.Dict [] [] pos) .dct0 .fresh:=.val (fun _ _=>rfl) fun _ _ F _ _=>dct0_sound F
theorem Ok.cmp {t:TC} {l r:Expr} {op:CmpOp} {pos:Pos} {a b:PE×Cl} (ha:Ok t l a.1 a.2) (hb:Ok t r b.1 b.2) (ht:(a.2.top&&b.2.top&&!behindInMarks op r)=true):Ok t (.Compare l [op] [r] pos) (.cmp (copOf op) a.1 b.1) .safe:=fun _ _ F h C=>cmp_sound F (ha _ _ F h C).1 (hb _ _ F h C).1 ht
theorem Ok.slL {t:TC} {v lo:Expr} {pos sp:Pos} {a b:PE×Cl} (ha:Ok t v a.1 a.2) (hb:Ok t lo b.1 b.2) (hta:a.2.top=true):Ok t (.Subscript v (.Slice (some lo) none none sp) pos) (.slL a.1 b.1) .safe:=.val (fun _ _=>rfl) fun _ _ F h C=>slL_sound F (ha _ _ F h C).1 (hb _ _ F h C).1 hta
theorem Ok.slH {t:TC} {v hi:Expr} {pos sp:Pos} {a b:PE×Cl} (ha:Ok t v a.1 a.2) (hb:Ok t hi b.1 b.2) (hta:a.2.top=true):Ok t (.Subscript v (.Slice none (some hi) none sp) pos) (.slH a.1 b.1) .safe:=.val (fun _ _=>rfl) fun _ _ F h C=>slH_sound F (ha _ _ F h C).1 (hb _ _ F h C).1 hta
theorem Ok.idx {t:TC} {v i:Expr} {pos:Pos} {a b:PE×Cl} (hi:isSlice i=false) (ha:Ok t v a.1 a.2) (hb:Ok t i b.1 b.2) (ht:(a.2.top&&b.2.top)=true):Ok t (.Subscript v i pos) (.idx a.1 b.1) .safe:=.val (fun _ _=>rfl) fun _ _ F h C=>idx_sound F hi (ha _ _ F h C).1 (hb _ _ F h C).1 (Bool.and_eq_true_iff.1 ht).1 (Bool.and_eq_true_iff.1 ht).2
noncomputable def callable (g:Str) (es:List Expr):Bool:=!(g==("__debug__" : Str))&&!es.any starred&&!es.isEmpty
theorem callable_ok {g:Str} {es:List Expr} (h:callable g es=true):(g==("__debug__" : Str))=false/\es.any starred=false/\es≠[]:=by
 simp only [callable,Bool.and_eq_true,Bool.not_eq_true'] at h
 exact ⟨h.1.1,h.1.2,fun e=>by rw [e] at h;cases h.2⟩
theorem Ok.isi {t:TC} {g:Str} {gp pos:Pos} {x y:Expr} {a:PE×Cl} {ty:Ty} (hc:callable g [x,y]=true) (hg:t.bi g "isinstance" = true) (hy:tyOf t y=some ty) (ha:Ok t x a.1 a.2) (hta:a.2.top=true):Ok t (.Call (.Name g gp) [x,y] [] pos) (.prim (.isi ty) [a.1]) .safe:=
 .val (fun _ _=>rfl) fun _ _ F h C=>by subst h;exact isi_call_sound F hg (callable_ok hc).1 (by have:=(callable_ok hc).2.1;rw [List.any_cons,Bool.or_eq_false_iff] at this;exact this.1) hy (ha _ _ F rfl C).1 hta
theorem Ok.lr {t:TC} {g r:Str} {gp pos rp pos':Pos} {e:Expr} {a:PE×Cl} (hg:t.bi g "list" = true) (hr:t.bi r "range" = true) (hse:starred e=false) (ha:Ok t e a.1 a.2):Ok t (.Call (.Name g gp) [.Call (.Name r rp) [e] [] pos'] [] pos) (.prim .listRange [a.1]) .fresh:=
 .val (fun _ _=>rfl) fun _ _ F h C=>by subst h;exact listRange_call F hg (by rw [(bi_eq hg).1];decide +kernel) hr (by rw [(bi_eq hr).1];decide +kernel) hse (ha _ _ F rfl C).1
theorem Ok.prm {t:TC} {g:Str} {gp pos:Pos} {es:List Expr} {l:List (PE×Cl)} {p:Prim} (hc:callable g es=true) (hp:primOf t g=some p) (h:Each t es l) (ht:(l.map (·.2)).all Cl.top=true):Ok t (.Call (.Name g gp) es [] pos) (.prim p (l.map (·.1))) (primCl p):=
 .val (fun _ _=>rfl) fun _ _ F q C=>by subst q;exact primcall_sound F hp (callable_ok hc).1 (h _ _ F rfl C) (callable_ok hc).2.1 (callable_ok hc).2.2 ht
theorem Ok.usr {t:TC} {g:Str} {gp pos:Pos} {es:List Expr} {l:List (PE×Cl)} {i ar:Nat} {fr clean:Bool} (hc:callable g es=true) (hg:t.glob g=true) (hl:t.G.lookup g=some (.fn i ar fr)) (h:Each t es l) (hn:l.length=ar) (hk:if clean then fr=true else (l.map (·.2)).all Cl.inner=true):
  Ok t (.Call (.Name g gp) es [] pos) (.call i clean (l.map (·.1))) (if fr then .fresh else .safe):=
 .val (fun _ _=>rfl) fun _ _ F q C=>by subst q;exact usercall_sound F C hg hl (callable_ok hc).1 (h _ _ F rfl C) (callable_ok hc).2.1 (callable_ok hc).2.2 hn hk
theorem Ok.ind {t:TC} {x m:Str} {e:Expr} {xp apos pos:Pos} {a b:PE×Cl} (ha:Ok t (.Name x xp) a.1 a.2) (hb:Ok t e b.1 b.2) (hc:(m==("index" : Str)&&!starred e&&(apos.endLine==pos.line)&&a.2.top&&b.2.top)=true):Ok t (.Call (.Attribute (.Name x xp) m apos) [e] [] pos) (.index a.1 b.1) .safe:=
 .val (fun _ _=>rfl) fun _ _ F q C=>by
  simp only [Bool.and_eq_true,Bool.not_eq_true'] at hc
  rw [eq_of_beq hc.1.1.1.1]
  exact index_sound F (ha _ _ F q C).1 (hb _ _ F q C).1 hc.1.1.1.2 hc.1.1.2 hc.1.2 hc.2
theorem Ok.get {t:TC} {x m:Str} {e:Expr} {xp apos pos cp:Pos} {ck:Nat} {c:Int} {a b:PE×Cl} (ha:Ok t (.Name x xp) a.1 a.2) (hb:Ok t e b.1 b.2) (hc:(m==("get" : Str)&&!starred e&&(apos.endLine==pos.line)&&a.2.top&&b.2.top)=true):Ok t (.Call (.Attribute (.Name x xp) m apos) [e,.Constant (.int c) ck cp] [] pos) (.get a.1 b.1 c) .safe:=
 .val (fun _ _=>rfl) fun _ _ F q C=>by
  simp only [Bool.and_eq_true,Bool.not_eq_true'] at hc
  rw [eq_of_beq hc.1.1.1.1]
  exact get_sound F (ha _ _ F q C).1 (hb _ _ F q C).1 hc.1.1.1.2 hc.1.1.2 hc.1.2 hc.2
theorem Ok.dct1 {t:TC} {ke ve:Expr} {pos:Pos} {a b:PE×Cl} (ha:Ok t ke a.1 a.2) (hb:Ok t ve b.1 b.2):Ok t (.Dict [some ke] [ve] pos) (.dct1 a.1 b.1) .fresh:=
 .val (fun _ _=>rfl) fun _ _ F q C=>dct1_sound F (ha _ _ F q C).1 (hb _ _ F q C).1
theorem Ok.sum {t:TC} {g:Str} {gp pos:Pos} {e:Expr} {a:PE×Cl} (hg:t.bi g "sum" = true) (hse:starred e=false) (ha:Ok t e a.1 a.2) (hta:a.2.top=true):Ok t (.Call (.Name g gp) [e] [] pos) (.prim .sum [a.1]) .safe:=
 .val (fun _ _=>rfl) fun _ _ F h C=>by subst h;exact sum_call F hg (by rw [(bi_eq hg).1];decide +kernel) hse (ha _ _ F rfl C).1 hta
theorem Ok.srt {t:TC} {g:Str} {gp pos:Pos} {e:Expr} {a:PE×Cl} (hg:t.bi g "sorted" = true) (hse:starred e=false) (ha:Ok t e a.1 a.2) (hta:a.2.top=true):Ok t (.Call (.Name g gp) [e] [] pos) (.prim .sorted [a.1]) .fresh:=
 .val (fun _ _=>rfl) fun _ _ F h C=>by subst h;exact sorted_call F hg (by rw [(bi_eq hg).1];decide +kernel) hse (ha _ _ F rfl C).1 hta
theorem Ok.lset {t:TC} {g r:Str} {gp pos rp pos':Pos} {e:Expr} {a:PE×Cl} (hg:t.bi g "len" = true) (hr:t.bi r "set" = true) (hse:starred e=false) (ha:Ok t e a.1 a.2) (hta:a.2.top=true):Ok t (.Call (.Name g gp) [.Call (.Name r rp) [e] [] pos'] [] pos) (.prim .lenSet [a.1]) .fresh:=
 .val (fun _ _=>rfl) fun _ _ F h C=>by subst h;exact lenSet_call F hg (by rw [(bi_eq hg).1];decide +kernel) hr (by rw [(bi_eq hr).1];decide +kernel) hse (ha _ _ F rfl C).1 hta
structure CR where
 one:Bool
 xs:List Str
 a:PE×Cl
 it:ItK×List PE×Cl
 cs:List (PE×Cl)
noncomputable def CR.pe (t:TC) (r:CR):PE:=.comp r.a.1 (compTgt t r.one r.xs) r.it.1 r.it.2.1 (r.cs.map (·.1))
structure CompIs (t:TC) (elt target iter:Expr) (ifs:List Expr) (scope:Scope) (r:CR):Prop where
 kd:scope.kind=.function
 tn:tgtNames target=some (r.one,r.xs)
 ok:compOk t scope.names r.xs=true
 inr:r.a.2.inner=true
 e:Ok (compTC t scope.names r.xs) elt r.a.1 r.a.2
 c:Each (compTC t scope.names r.xs) ifs r.cs
 i:It t (!r.one) iter r.it
theorem Ok.comp {t:TC} {elt target iter:Expr} {ifs:List Expr} {scope:Scope} {pos:Pos} {r:CR} (h:CompIs t elt target iter ifs scope r):Ok t (.ListComp elt [⟨target,iter,ifs,0⟩] scope pos) (r.pe t) .fresh:=
 .val (fun _ _=>rfl) fun _ f F q C=>by
  subst q
  exact comp_sound F h.kd h.tn (compOk_ok h.ok) h.inr (fun cl c hcl=>(h.e _ (compFix f scope r.xs cl c) (compFix_ok F h.kd (compOk_ok h.ok) hcl) rfl C).1) (fun cl c hcl=>h.c _ (compFix f scope r.xs cl c) (compFix_ok F h.kd (compOk_ok h.ok) hcl) rfl C) (h.i _ _ F rfl C)
theorem It.seq {t:TC} {tup:Bool} {e:Expr} {a:PE×Cl} (hs:∀ env x,foldedSetIterable e env x=pure x) (ha:Ok t e a.1 a.2) (ht:a.2.top=true):It t tup e (.seq,[a.1],a.2):=fun _ _ F q C=>it_seq F hs (ha _ _ F q C).1 ht
theorem It.range {t:TC} {tup:Bool} {g:Str} {gp pos:Pos} {e:Expr} {a:PE×Cl} (hb:t.bi g "range" = true) (hs:starred e=false) (ha:Ok t e a.1 a.2):It t tup (.Call (.Name g gp) [e] [] pos) (.range1,[a.1],.safe):=fun _ _ F q C=>by subst q;exact it_range F hb hs (ha _ _ F rfl C).1
theorem It.range2 {t:TC} {tup:Bool} {g:Str} {gp pos:Pos} {e e':Expr} {a b:PE×Cl} (hb:t.bi g "range" = true) (hs:starred e=false) (hs':starred e'=false) (ha:Ok t e a.1 a.2) (hb':Ok t e' b.1 b.2):It t tup (.Call (.Name g gp) [e,e'] [] pos) (.range2,[a.1,b.1],.safe):=fun _ _ F q C=>by subst q;exact it_range2 F hb hs hs' (ha _ _ F rfl C).1 (hb' _ _ F rfl C).1
theorem It.enum {t:TC} {g:Str} {gp pos:Pos} {e:Expr} {a:PE×Cl} (hb:t.bi g "enumerate" = true) (hs:starred e=false) (ha:Ok t e a.1 a.2) (ht:a.2.top=true):It t true (.Call (.Name g gp) [e] [] pos) (.enum,[a.1],a.2):=fun _ _ F q C=>by subst q;exact it_enum F hb hs (ha _ _ F rfl C).1 ht
noncomputable def toL {t:TC} (g:(e:Expr)->TE t e):(es:List Expr)->Option { l:List (PE×Cl) // Each t es l }
 | []=>some ⟨[],fun _ _ _ _ _=>.nil⟩
 | e::es=>(g e).bind fun a=>(toL g es).bind fun l=>some ⟨(a.1.1,a.1.2)::l.1,fun _ _ F q C=>.cons (a.2 _ _ F q C).1 (a.2 _ _ F q C).2 (l.2 _ _ F q C)⟩
noncomputable def toSeq {t:TC} (g:(e:Expr)->TE t e) (tup:Bool) (e:Expr) (hs:∀ env x,foldedSetIterable e env x=pure x):Option { r:ItK×List PE×Cl // It t tup e r }:=
 (g e).bind fun a=>if h:a.1.2.top=true then some ⟨_,.seq hs a.2 h⟩ else none
noncomputable def toRg {t:TC} (g:(e:Expr)->TE t e) (tup:Bool) (f:Str) (fp:Pos) (args:List Expr) (pos:Pos):Option { r:ItK×List PE×Cl // It t tup (.Call (.Name f fp) args [] pos) r }:=match args with
 | [a]=>if h:t.bi f "range" = true/\starred a=false then (g a).bind fun b=>some ⟨_,.range h.1 h.2 b.2⟩
   else if h:t.bi f "enumerate" = true/\starred a=false then (match tup with
    | true=>(g a).bind fun b=>if ht:b.1.2.top=true then some ⟨_,.enum h.1 h.2 b.2 ht⟩ else none
    | false=>none)
   else none
 | [a,b]=>if h:t.bi f "range" = true/\starred a=false/\starred b=false then (g a).bind fun c=>(g b).bind fun d=>some ⟨_,.range2 h.1 h.2.1 h.2.2 c.2 d.2⟩ else none
 | _=>none
noncomputable def toIt {t:TC} (g:(e:Expr)->TE t e) (tup:Bool) (e:Expr):Option { r:ItK×List PE×Cl // It t tup e r }:=match e with
 | .Call (.Name f fp) args [] pos=>(toRg g tup f fp args pos).or (toSeq g tup (.Call (.Name f fp) args [] pos) fun _ _=>rfl)
 | .Name x pos=>toSeq g tup (.Name x pos) fun _ _=>rfl
 | .Tuple es k pos=>toSeq g tup (.Tuple es k pos) fun _ _=>rfl
 | .List es pos=>toSeq g tup (.List es pos) fun _ _=>rfl
 | .Subscript v i pos=>toSeq g tup (.Subscript v i pos) fun _ _=>rfl
 | .BinOp l op r pos=>toSeq g tup (.BinOp l op r pos) fun _ _=>rfl
 | _=>none
noncomputable def toComp (g:(t:TC)->(e:Expr)->TE t e) (t:TC) (elt target iter:Expr) (ifs:List Expr) (scope:Scope):Option { r:CR // CompIs t elt target iter ifs scope r }:=
 match htn:tgtNames target with
 | none=>none
 | some (one,xs)=>if h:compOk t scope.names xs=true/\scope.kind=.function then
   (toIt (g t) (!one) iter).bind fun i=>(g (compTC t scope.names xs) elt).bind fun a=>(toL (g (compTC t scope.names xs)) ifs).bind fun c=>
    if hi:a.1.2.inner=true then some ⟨⟨one,xs,a.1,i.1,c.1⟩,h.2,htn,h.1,hi,a.2,c.2,i.2⟩ else none
  else none
noncomputable def toSp (g:(t:TC)->(e:Expr)->TE t e) (t:TC) (f:Str) (fp:Pos) (args:List Expr) (pos:Pos):TE t (.Call (.Name f fp) args [] pos):=match args with
 | [.Call (.Name r rp) [e] [] pos']=>if h:t.bi f "list" = true/\t.bi r "range" = true/\starred e=false then (g t e).bind fun a=>some ⟨(_,_),.lr h.1 h.2.1 h.2.2 a.2⟩
   else if h:t.bi f "len" = true/\t.bi r "set" = true/\starred e=false then (g t e).bind fun a=>if ht:a.1.2.top=true then some ⟨(_,_),.lset h.1 h.2.1 h.2.2 a.2 ht⟩ else none else none
 | _=>none
noncomputable def toCall (g:(t:TC)->(e:Expr)->TE t e) (t:TC) (f:Str) (fp:Pos) (args:List Expr) (pos:Pos):TE t (.Call (.Name f fp) args [] pos):=
 if hc:callable f args=true then
  match hp:primOf t f with
  | some p=>(toSp g t f fp args pos).or ((toL (g t) args).bind fun l=>if ht:(l.1.map (·.2)).all Cl.top=true then some ⟨(_,_),.prm hc hp l.2 ht⟩ else none)
  | none=>if hg:t.glob f=true then (match hl:t.G.lookup f with
   | some (.fn i ar fr)=>(toL (g t) args).bind fun l=>if hn:l.1.length=ar then
     (if hk:(l.1.map (·.2)).all Cl.inner=true then some ⟨(_,_),.usr (clean:=false) hc hg hl l.2 hn hk⟩
      else if hk:fr=true then some ⟨(_,_),.usr (clean:=true) hc hg hl l.2 hn hk⟩ else none) else none
   | none=>(match args with
    | [x,y]=>if hb:t.bi f "isinstance" = true then (match hy:tyOf t y with
     | some ty=>(g t x).bind fun a=>if ht:a.1.2.top=true then some ⟨(_,_),.isi hc hb hy a.2 ht⟩ else none
     | none=>none) else none
    | [x]=>(g t x).bind fun a=>if ht:starred x=false/\a.1.2.top=true then (if hb:t.bi f "sum" = true then some ⟨(_,_),.sum hb ht.1 a.2 ht.2⟩ else if hb:t.bi f "sorted" = true then some ⟨(_,_),.srt hb ht.1 a.2 ht.2⟩ else none) else none
    | _=>none)
   | _=>none) else none
 else none
noncomputable def toSub {t:TC} (g:(e:Expr)->TE t e) (v i:Expr) (pos:Pos):TE t (.Subscript v i pos):=(g v).bind fun a=>if hta:a.1.2.top=true then (match i with
 | .Slice lo hi st sp=>(match lo,hi,st with
  | some lo,none,none=>(g lo).bind fun b=>some ⟨(_,_),.slL a.2 b.2 hta⟩
  | none,some hi,none=>(g hi).bind fun b=>some ⟨(_,_),.slH a.2 b.2 hta⟩
  | _,_,_=>none)
 | i=>if hi:isSlice i=false then (g i).bind fun b=>if h:(a.1.2.top&&b.1.2.top)=true then some ⟨(_,_),.idx hi a.2 b.2 h⟩ else none else none) else none
noncomputable def toPE:Nat->(t:TC)->(e:Expr)->TE t e
 | 0,_,_=>none
 | n+1,t,e=>match e with
  | .Constant c kd pos=>(match h:cOf c with
   | some d=>some ⟨(_,_),.con h⟩
   | none=>none)
  | .Name x pos=>if hd:(x==("__debug__" : Str))=false then (match h:t.slot x with
   | some i=>some ⟨(_,_),.vr hd h⟩
   | none=>if hg:t.glob x=true then (match hl:t.G.lookup x with
    | some (.const d)=>some ⟨(_,_),.gl hd hg hl⟩
    | _=>none) else none) else none
  | .BoolOp op es pos=>(toL (toPE n t) es).bind fun l=>if he:es≠[] then some ⟨(_,_),.bop l.2 he⟩ else none
  | .BinOp l op r pos=>(toPE n t l).bind fun a=>(toPE n t r).bind fun b=>(match ho:bopOf op with
   | some o=>if ht:(a.1.2.top&&b.1.2.top)=true then some ⟨(_,_),.bin a.2 b.2 ho ht⟩ else none
   | none=>none)
  | .UnaryOp .Not x pos=>(toPE n t x).bind fun a=>some ⟨(_,_),.not a.2⟩
  | .UnaryOp .USub x pos=>(toPE n t x).bind fun a=>some ⟨(_,_),.neg a.2⟩
  | .IfExp c a b pos=>(toPE n t c).bind fun c=>(toPE n t a).bind fun a=>(toPE n t b).bind fun b=>if h:(a.1.2.inner&&b.1.2.inner)=true then some ⟨(_,_),.ite c.2 a.2 b.2 h⟩ else none
  | .Tuple es kd pos=>if hs:es.any starred=false then (toL (toPE n t) es).bind fun l=>if hc:clsJoin (l.1.map (·.2))=.safe then some ⟨(_,_),.tupf hs l.2 hc⟩ else some ⟨(_,_),.tup hs l.2⟩ else none
  | .List es pos=>if hs:es.any starred=false then (toL (toPE n t) es).bind fun l=>if hc:clsJoin (l.1.map (·.2))=.safe then some ⟨(_,_),.lst hs l.2 hc⟩ else none else none
  | .Dict [] [] pos=>some ⟨(_,_),.dct⟩
  | .Dict [some ke] [ve] pos=>(toPE n t ke).bind fun a=>(toPE n t ve).bind fun b=>some ⟨(_,_),.dct1 a.2 b.2⟩
  | .Compare l [o] [r] pos=>(toPE n t l).bind fun a=>(toPE n t r).bind fun b=>if h:(a.1.2.top&&b.1.2.top&&!behindInMarks o r)=true then some ⟨(_,_),.cmp a.2 b.2 h⟩ else none
  | .Subscript v i pos=>toSub (toPE n t) v i pos
  | .Call (.Name f fp) args [] pos=>toCall (toPE n) t f fp args pos
  | .Call (.Attribute (.Name x xp) m apos) [e] [] pos=>(toPE n t (.Name x xp)).bind fun a=>(toPE n t e).bind fun b=>if h:(m==("index" : Str)&&!starred e&&(apos.endLine==pos.line)&&a.1.2.top&&b.1.2.top)=true then some ⟨(_,_),.ind a.2 b.2 h⟩ else none
  | .Call (.Attribute (.Name x xp) m apos) [e,.Constant (.int c) ck cp] [] pos=>(toPE n t (.Name x xp)).bind fun a=>(toPE n t e).bind fun b=>if h:(m==("get" : Str)&&!starred e&&(apos.endLine==pos.line)&&a.1.2.top&&b.1.2.top)=true then some ⟨(_,_),.get a.2 b.2 h⟩ else none
  | .ListComp elt [⟨target,iter,ifs,0⟩] scope pos=>(toComp (toPE n) t elt target iter ifs scope).bind fun r=>some ⟨(_,_),.comp r.2⟩
  | _=>none
end Mine.Internal
end
section
set_option backward.eqns.nonrecursive false
namespace Mine.Internal
open PySem
noncomputable def isComp:Expr->Bool
 | .ListComp .. | .SetComp .. | .DictComp ..=>true
 | _=>false
noncomputable def stOk (t:TC) (i:Nat) (k:Cl):Bool:=if i∈t.mv then k==.fresh else k.inner
noncomputable def isTuple:Expr->Bool
 | .Tuple ..=>true
 | _=>false
structure Def where
 name:Str
 args:Arguments
 body:List Stmt
 scope:Scope
mutual
noncomputable def mutS:Stmt->List Str
 | .Assign [.Subscript (.Name x _) _ _] _ _=>[x]
 | .Expr (.Call (.Attribute (.Name x _) m _) _ _ _) _=>if m==("append" : Str)||m==("update" : Str) then [x] else []
 | .If _ a b _=>mutSs a++mutSs b
 | .For _ _ b _ _=>mutSs b
 | .While _ b _ _=>mutSs b
 | _=>[]
noncomputable def mutSs:List Stmt->List Str
 | []=>[]
 | s::r=>mutS s++mutSs r
end
noncomputable def paramsOf (a:Arguments):List Str:=a.args.map (·.arg)
noncomputable def slotsOf (d:Def):List (Str×Nat):=
 (paramsOf d.args++(d.scope.names.filter fun p=>(p.2==.local||p.2==.cell)&&!(paramsOf d.args).contains p.1).map (·.1)).zipIdx
structure Opt where
 fr:Bool:=false
 own:List Str:=[]
noncomputable def optOf (os:List (Str×Opt)) (x:Str):Opt:=(os.lookup x).getD {}
noncomputable def mvOf (os:List (Str×Opt)) (d:Def):List Nat:=(slotsOf d).filterMap fun p=>if (mutSs d.body++(optOf os d.name).own).contains p.1 then some p.2 else none
noncomputable def tcOf (os:List (Str×Opt)) (G:List (Str×GE)) (d:Def):TC:={ scope:=d.scope.names,slots:=slotsOf d,mv:=mvOf os d,G:=G,cbase:=(slotsOf d).length }
noncomputable def mkG (os:List (Str×Opt)) (ds:List Def) (more:List (Str×GE)):List (Str×GE):=ds.zipIdx.map (fun p=>(p.1.name,GE.fn p.2 p.1.args.args.length (optOf os p.1.name).fr))++more
end Mine.Internal
end
section
set_option backward.eqns.nonrecursive false
namespace Mine.Internal
open PySem PySem.Spec PyProof.Rows
inductive Evo (c:Cx) (own own':Addr->Option Nat) (s s':Shared):Prop where
 | mk (eh:∃ h' tk,s'=(up s (h') (tk))) (hn:∀ b o,s.heap.get? b=some o->own b=none->own' b=none)
  (hs:∀ b o,s.heap.get? b=some o->Stay own s.heap b->b∉frs c.A->b≠c.env.locals->(∀ v,o.data≠.cell v)->s'.heap.get? b=some o)
section
variable {c:Cx} {own own' own'':Addr->Option Nat} {ρ:Slots} {s s' s'':Shared}
theorem Evo.refl:Evo c own own s s:=⟨⟨s.heap,s.toks,rfl⟩,fun _ _ _ h=>h,fun _ _ h _ _ _ _=>h⟩
theorem Stay.to {b:Addr} {o:Obj} {h h':Heap} (x:Stay own h b) (ho:h.get? b=some o) (ho':h'.get? b=some o) (hn:own b=none->own' b=none):Stay own' h' b:=by
 rcases x with x | ⟨o1,vs,n,h1,h2,h3⟩
 ·exact .inl (hn x)
 ·rw [ho] at h1;cases h1;exact .inr ⟨o,vs,n,ho',h2,h3⟩
theorem Evo.trans (x:Evo c own own' s s') (y:Evo c own' own'' s' s'') (hin:∀ b o,s.heap.get? b=some o->∃ o',s'.heap.get? b=some o'):Evo c own own'' s s'':=by
 obtain ⟨⟨h1,t1,rfl⟩,a1,b1⟩:=x
 obtain ⟨⟨h2,t2,rfl⟩,a2,b2⟩:=y
 refine ⟨⟨h2,t2,rfl⟩,fun b o hb hn=>?_,fun b o hb hs h3 h4 h5=>?_⟩
 ·obtain ⟨o',ho'⟩:=hin b o hb
  exact a2 b o' ho' (a1 b o hb hn)
 ·have:=b1 b o hb hs h3 h4 h5
  exact b2 b o this (hs.to hb this (a1 b o hb)) h3 h4 h5
theorem Evo.grow (g:Grow c.A s s'):Evo c own own s s':=by
 obtain ⟨h1,t1,rfl,k⟩:=g
 exact ⟨⟨h1,t1,rfl⟩,fun _ _ _ h=>h,fun b o hb _ h3 _ _=>(k b o hb).1 h3⟩
theorem Evo.claim (g:Grow c.A s s') (hs:∀ b o,s.heap.get? b=some o->own' b=own b):Evo c own own' s s':=by
 obtain ⟨h1,t1,rfl,k⟩:=g
 exact ⟨⟨h1,t1,rfl⟩,fun b o hb h=>(hs b o hb).trans h,fun b o hb _ h3 _ _=>(k b o hb).1 h3⟩
theorem Evo.stored (x:St c own ρ s) {N:Addr->Prop} (hN:∀ b,N b->Names c b) (st:Stored N s s'):Evo c own own s s':=by
 obtain ⟨h1,t1,rfl,k⟩:=st
 refine ⟨⟨h1,t1,rfl⟩,fun _ _ _ h=>h,fun b o hb _ _ h4 h5=>k b o hb fun hn=>?_⟩
 rcases hN b hn with e | ⟨n,hn⟩
 ·exact h4 e
 ·obtain ⟨v,o',ho',hd⟩:=x.cell n b hn
  rw [hb] at ho';cases ho';exact h5 v hd
theorem Grow.in_ {A:Around} (g:Grow A s s'):∀ b o,s.heap.get? b=some o->∃ o',s'.heap.get? b=some o':=fun b o hb=>g.h.some ⟨o,hb⟩
end
section
inductive RetOK (f:Fix) (fr:Bool) (s s':Shared) (d:PV) (v:Value):Prop where
 | mk (eh:∃ h' tk,s'=(up s (h') (tk))) (g:GrowH (frs f.c.A) f.c.h0 s'.heap) (r:RetRd f.c.h0 s'.heap f.c.P0 fr d v)
inductive NextOK (f:Fix) (R:Res Out) (own:Addr->Option Nat) (s s':Shared):Prop where
 | mk (ρ':Slots) (own':Addr->Option Nat) (e:R=.ok (.next ρ')) (x:St f.c own' ρ' s') (ev:Evo f.c own own' s s') (hin:∀ b o,s.heap.get? b=some o->∃ o',s'.heap.get? b=some o')
noncomputable def ExPost (f:Fix) (fr:Bool) (R:Res Out) (own:Addr->Option Nat) (s:Shared) (fl:Flow) (s':Shared):Prop:=match fl with
 | .next=>NextOK f R own s s'
 | .ret v=>∃ d,R=.ok (.ret d)/\RetOK f fr s s' d v
 | _=>False
def ExOK (f:Fix) (cf:Nat->List PV->Res PV) (fr:Bool) (st:Stmt) (p:PS):Prop:=
 ∀ own ρ s,St f.c own ρ s->ex cf ρ p≠.stuck->wpAny (model prog w) f.c.A (exec st f.c.env) (ExPost f fr (ex cf ρ p) own s) (fun _ _=>False) s
noncomputable def ExsOK (f:Fix) (cf:Nat->List PV->Res PV) (fr:Bool) (st:List Stmt) (p:List PS):Prop:=
 ∀ own ρ s,St f.c own ρ s->exs cf ρ p≠.stuck->wpAny (model prog w) f.c.A (execs st f.c.env) (ExPost f fr (exs cf ρ p) own s) (fun _ _=>False) s
end
section
variable {f:Fix} {cf:Nat->List PV->Res PV} {own:Addr->Option Nat} {ρ:Slots} {s s₁:Shared} {fr:Bool}
theorem St.own1 (F:FixOk f) (x:St f.c own ρ s) (g:Grow f.c.A s s₁) {i:Nat} (hi:i∈f.c.mv) {d:PV} {v:Value} (r:RdC f.c own s.heap s₁.heap .fresh d v):
  ∃ own',St f.c own' ρ s₁/\VRd s₁.heap f.c own' i d v/\∀ b o,s.heap.get? b=some o->own' b=own b:=by
 have key:∀ {a:Addr},v=.ref a->s.heap.get? a=none->(∃ o,s₁.heap.get? a=some o)->RdO s₁.heap (fun b=>Fz f.c own b/\v≠.ref b) (fun b=>b=a) d v->∃ own',St f.c own' ρ s₁/\VRd s₁.heap f.c own' i d v/\∀ b o,s.heap.get? b=some o->own' b=own b:=by
  intro a hv hn ho rr
  have hs:∀ b o,s.heap.get? b=some o->(if b=a then some i else own b)=own b:=fun b o hb=>if_neg fun e=>by rw [e,hn] at hb;cases hb
  refine ⟨fun b=>if b=a then some i else own b,x.claim F.ok g hs fun b hb=>?_,?_,hs⟩
  ·by_cases e:b=a
   ·rw [e];exact ho
   ·rw [if_neg e] at hb;exact (x.grow F.ok g).ownIn b hb
  ·unfold VRd
   rw [if_pos hi]
   refine RdO.imp (fun b _ _ _ p=>?_) (fun b _ _ _ p=>⟨p.1.1,?_⟩) rr
   ·exact if_pos p
   ·have:b≠a:=fun e=>p.2 (e ▸ hv)
    simp only [if_neg this];exact p.1.2
 have same:Rd s₁.heap (Fz f.c own) d v->(∀ l,d≠.list l)->(∀ l,d≠.dict l)->∃ own',St f.c own' ρ s₁/\VRd s₁.heap f.c own' i d v/\∀ b o,s.heap.get? b=some o->own' b=own b:=fun rr h1 h2=>by
  refine ⟨own,x.grow F.ok g,?_,fun _ _ _=>rfl⟩
  unfold VRd
  rw [if_pos hi]
  cases d with
  | list l=>exact absurd rfl (h1 l)
  | dict l=>exact absurd rfl (h2 l)
  | none=>exact rr
  | bool _=>exact rr
  | int _=>exact rr
  | tuple l=>exact rr
 cases d with
 | list l=>
  obtain ⟨a,vs,hv,hn,⟨n,hs⟩,hl,hr⟩:=r
  exact key hv hn ⟨_,hs⟩ ⟨a,vs,hv,rfl,⟨n,hs⟩,hl,hr⟩
 | dict l=>
  obtain ⟨a,vs,hv,hn,h1,hl,hq,hr⟩:=r
  refine key hv hn ?_ ⟨a,vs,hv,rfl,h1,hl,hq,hr⟩
  rcases hq with ⟨_,⟨o,_,_,ho,_⟩,_⟩ | ⟨_,⟨o,_,_,ho,_⟩,_⟩<;>exact ⟨o,ho⟩
 | none=>exact same r (fun _ q=>by cases q) fun _ q=>by cases q
 | bool _=>exact same r (fun _ q=>by cases q) fun _ q=>by cases q
 | int _=>exact same r (fun _ q=>by cases q) fun _ q=>by cases q
 | tuple l=>exact same (Rd.imp (fun _ _ _ _ p=>p.1) (.tuple l) r) (fun _ q=>by cases q) fun _ q=>by cases q
theorem Stored.in_ {c:Cx} (x:St c own ρ s) {ρ':Slots} {own':Addr->Option Nat} {s':Shared} (x':St c own' ρ' s') {N:Addr->Prop} (hN:∀ b,N b->Names c b) (st:Stored N s s'):∀ b o,s.heap.get? b=some o->∃ o',s'.heap.get? b=some o':=fun b o hb=>by
 obtain ⟨h1,t1,rfl,k⟩:=st
 by_cases hn:N b
 ·rcases hN b hn with e | ⟨n,hn⟩
  ·obtain ⟨_,m,o',_,_,ho',_⟩:=x'.loc;rw [e];exact ⟨o',ho'⟩
  ·obtain ⟨v,o',ho',_⟩:=x'.cell n b hn;exact ⟨o',ho'⟩
 ·exact ⟨o,k b o hb hn⟩
theorem store_after (F:FixOk f) (x:St f.c own ρ s) (g:Grow f.c.A s s₁) {y:Str} {i:Nat} (hm:(y,i)∈f.c.names) {k:Cl} (hk:(if i∈f.t.mv then k==.fresh else k.inner)=true) {d:PV} {v:Value} (r:RdC f.c own s.heap s₁.heap k d v)
  {Q:Unit->Shared->Prop} {E:Value->Shared->Prop} (hQ:∀ own' s',St f.c own' (ρ.set i (some d)) s'->Evo f.c own own' s s'->(∀ b o,s.heap.get? b=some o->∃ o',s'.heap.get? b=some o')->Q () s'):
  wpAny (model prog w) f.c.A (storeName f.c.env y v) Q E s₁:=by
 have x1:=x.grow F.ok g
 by_cases hi:i∈f.t.mv
 ·rw [if_pos hi] at hk
  have hk':k=.fresh:=eq_of_beq hk
  subst hk'
  obtain ⟨own',x2,hv,hs⟩:=x.own1 F g (F.mv ▸ hi) r
  refine x2.store (N:=Names f.c) (fun b h=>h.names) F.ok hm hv fun s' x' st=>hQ own' s' x' ?_ ?_
  ·exact (Evo.claim g hs).trans (Evo.stored x2 (fun _ h=>h) st) g.in_
  ·intro b o hb
   obtain ⟨o',ho'⟩:=g.in_ b o hb
   exact st.in_ x2 x' (fun _ h=>h) b o' ho'
 ·rw [if_neg hi] at hk
  refine x1.store (N:=Names f.c) (fun b h=>h.names) F.ok hm (d:=d) (by unfold VRd;rw [if_neg (F.mv ▸ hi)];exact r.rd x hk) fun s' x' st=>hQ own s' x' ?_ ?_
  ·exact (Evo.grow g).trans (Evo.stored x1 (fun _ h=>h) st) g.in_
  ·intro b o hb
   obtain ⟨o',ho'⟩:=g.in_ b o hb
   exact st.in_ x1 x' (fun _ h=>h) b o' ho'
theorem EvOK.useX (h:EvOK f cf e p k) (F:FixOk f) (x:St f.c own ρ s) {g:PV->Res Out} (hns:(ev cf ρ p).bind g≠.stuck) {Q:Value->Shared->Prop}
  (hQ:∀ d v s',ev cf ρ p=.ok d->(ev cf ρ p).bind g=g d->g d≠.stuck->Grow f.c.A s s'->St f.c own ρ s'->RdC f.c own s.heap s'.heap k d v->Q v s'):
  wpAny (model prog w) f.c.A (eval e f.c.env) Q (fun _ _=>False) s:=
 h.use F x hns hQ
theorem assign_sound (F:FixOk f) {y:Str} {py pos:Pos} {value:Expr} {i:Nat} {a:PE} {k:Cl} (hm:(y,i)∈f.c.names) (hev:EvOK f cf value a k) (hk:(if i∈f.t.mv then k==.fresh else k.inner)=true)
  (hs:swapsWith value (some (.Name y py)) pos.line f.c.env=pure false):ExOK f cf fr (.Assign [.Name y py] value pos) (.assign i a):=by
 intro own ρ s x hn
 dsimp only [xE1] at hn ⊢
 refine wpAny_Assign_Name (hev.useX F x hn fun d v s₁ e1 e2 hn1 g1 x1 r1=>?_) hs
 rw [e2]
 exact store_after F x g1 hm hk r1 fun own' s' x' ev hin=>⟨_,own',rfl,x',ev,hin⟩
theorem assign_comp_sound (F:FixOk f) {elt target iter:Expr} {ifs:List Expr} {scope:Scope} {pos spos:Pos} {xs:List Str} {one:Bool} (hkd:scope.kind=.function) (htn:tgtNames target=some (one,xs)) (ok:CompOk f.t scope.names xs)
  {a:PE} {k cl0:Cl} {kk:ItK} {src:List PE} {cs:List (PE×Cl)} (hk:k.inner=true) (hev:∀ cl C,Clo f.c.env scope.names cl->EvOK (compFix f scope xs cl C) cf elt a k) (hcs:∀ cl C,Clo f.c.env scope.names cl->EachOK (compFix f scope xs cl C) cf ifs cs)
  (hit:ItOK f cf (!one) iter kk src cl0)
  {y:Str} {py:Pos} {i:Nat} (hm:(y,i)∈f.c.names) (hloc:f.c.env.kindOf y=some .local) (hs:swapsWith (.ListComp elt [⟨target,iter,ifs,0⟩] scope pos) (some (.Name y py)) spos.line f.c.env=pure true):
  ExOK f cf fr (.Assign [.Name y py] (.ListComp elt [⟨target,iter,ifs,0⟩] scope pos) spos) (.assign i (.comp a (compTgt f.t one xs) kk src (cs.map (·.1)))):=by
 intro own ρ s x hn
 dsimp only [xE1] at hn ⊢
 have hn1:ev cf ρ (.comp a (compTgt f.t one xs) kk src (cs.map (·.1)))≠.stuck:=fun q=>hn (by rw [q];rfl)
 rw [exec_Assign_Name_used _ _ _ _ hs]
 refine wpAny_bind (wpAny_standAt (wpAny_bind ?_))
 show wpAny _ _ (do let _ <-comprehension (.ListComp elt [⟨target,iter,ifs,0⟩] scope pos) scope f.c.env _ (newList []) false (eval iter f.c.env) (some (assign (.Name y py) f.c.env))) _ _ s
 refine wpAny_bind (wpAny_mono (comp_run (use:=some (assign (.Name y py) f.c.env)) (Q:=fun _ s'=>ExPost f fr ((ev cf ρ (.comp a (compTgt f.t one xs) kk src (cs.map (·.1)))).bind fun d=>.ok (.next (ρ.set i (some d)))) own s .next s')
  (E:=fun _ _=>False)
  F hkd htn ok hk hev hcs hit x hn1 fun C D s' l vs e1 hC hD hDC hns hl hlen hr g x'=>?_) (fun _ s' q=>wpAny_pure (wpAny_pure q)) fun _ _ e=>e)
 rw [e1]
 obtain ⟨m,hm0⟩:=hns
 obtain ⟨oC,esC,epC,hoC,hdC,_⟩:=id hm0
 obtain ⟨nD,hoD⟩:=id hl
 let own1:Addr->Option Nat:=fun b=>if b=C then some dum else if b=D/\i∈f.c.mv then some i else own b
 have hCl:C≠f.c.env.locals:=fun e=>by
  obtain ⟨_,m',o,_,_,ho,_⟩:=x.loc
  rw [<-e,hC] at ho;cases ho
 have hCf:C∉frs f.c.A:=fun hf=>by
  obtain ⟨_,m',o,_,_,ho,_⟩:=x.fr C hf
  rw [hC] at ho;cases ho
 have hold:∀ b o,s.heap.get? b=some o->own1 b=own b:=fun b o hb=>by
  have h1:b≠C:=fun e=>by rw [e,hC] at hb;cases hb
  have h2:b≠D:=fun e=>by rw [e,hD] at hb;cases hb
  show (if b=C then some dum else if b=D/\i∈f.c.mv then some i else own b)=own b
  rw [if_neg h1,if_neg fun h=>h2 h.1]
 have x1:St f.c own1 ρ s':=x.claim F.ok g hold fun b hb=>by
  by_cases h1:b=C
  ·rw [h1];exact ⟨_,hoC⟩
  by_cases h2:b=D
  ·rw [h2];exact ⟨_,hoD⟩
  ·refine x'.ownIn b ?_
   have:own1 b=own b:=by show (if b=C then some dum else if b=D/\i∈f.c.mv then some i else own b)=own b;rw [if_neg h1,if_neg fun h=>h2 h.1]
   rwa [this] at hb
 have hvrd:VRd s'.heap f.c own1 i (.list l) (.ref D):=by
  have inn:Rds s'.heap (Fz f.c own1) l vs.toList:=Rds.imp (fun b o ho _ p=>⟨p.1.1,by
   show (if b=C then some dum else if b=D/\i∈f.c.mv then some i else own b)=none
   rw [if_neg p.2.1,if_neg fun h=>p.2.2 h.1];exact p.1.2⟩) l hr
  unfold VRd
  split
  ·rename_i hi
   refine ⟨D,vs,rfl,?_,hl,hlen,inn⟩
   show (if D=C then some dum else if D=D/\i∈f.c.mv then some i else own D)=some i
   rw [if_neg hDC,if_pos ⟨rfl,hi⟩]
  ·rename_i hi
   refine ⟨D,vs,rfl,⟨.inr (x.newBase hD),?_⟩,hl,hlen,inn⟩
   show (if D=C then some dum else if D=D/\i∈f.c.mv then some i else own D)=none
   rw [if_neg hDC,if_neg fun h=>hi h.2]
   exact x.newOwn hD
 show wpAny _ _ (assign (.Name y py) f.c.env (.ref D)) _ _ s'
 refine wpAny_assign_Name (x1.store (N:=fun b=>b=f.c.env.locals) (fun b h=>?_) F.ok hm hvrd fun s2 x2 st=>?_)
 ·rcases h with ⟨_,e⟩ | ⟨e,_⟩
  ·exact e
  ·rw [hloc] at e;cases e
 have hC2:s2.heap.get? C=some oC:=by
  obtain ⟨h2,t2,rfl,k2⟩:=st
  exact k2 C oC hoC hCl
 refine ⟨m,hm0.at' (fun o ho=>?_),fun h3 hs3=>?_⟩
 ·rw [hoC] at ho;cases ho;exact hC2
 have hD1:own1 C=some dum:=if_pos rfl
 let own2:Addr->Option Nat:=fun b=>if b=C then none else own1 b
 have x3:St f.c own2 (ρ.set i (some (.list l))) (up s2 (h3) (s2.toks)):=by
  refine x2.change' F.ok (W:=fun b=>b=C) (fun b hb=>?_) ⟨fun b hb=>?_,fun b j hj hb=>?_,fun b j hj hb=>?_,fun b hb=>?_,?_⟩ (fun b hb ho=>?_) (fun b hb=>if_neg hb) fun b o hb ho=>(hs3.2 b hb).trans ho
  ·subst hb
   exact ⟨x.newBase hC,oC,hC2,.inr (.inr ⟨hD1,hCf,hCl,_,_,hdC⟩)⟩
  ·show (if b=C then none else own1 b)=none
   split
   ·rfl
   ·exact hb
  ·have:b≠C:=fun e=>by rw [e,hD1] at hb;cases hb;exact F.ok.dumNot hj
   show (if b=C then none else own1 b)=some j
   rw [if_neg this];exact hb
  ·have:b≠C:=fun e=>by
    have:own2 C=none:=if_pos rfl
    rw [e,this] at hb;cases hb
   have h2:own2 b=own1 b:=if_neg this
   rwa [h2] at hb
  ·exact if_neg (fun (e:b=C)=>hCf (e ▸ hb))
  ·exact if_neg (fun (e:f.c.env.locals=C)=>hCl e.symm)
  ·exact absurd (by rw [hb];exact if_pos rfl) ho
 refine ⟨_,own2,rfl,x3,?_,fun b o hb=>?_⟩
 ·have e1:Evo f.c own own1 s s2:=(Evo.claim g hold).trans (Evo.stored x1 (fun b h=>.inl h) st) g.in_
  obtain ⟨⟨h2,t2,rfl⟩,a2,b2⟩:=e1
  refine ⟨⟨h3,t2,rfl⟩,fun b o hb hn=>?_,fun b o hb hst h4 h5 h6=>?_⟩
  ·show (if b=C then none else own1 b)=none
   split
   ·rfl
   ·exact a2 b o hb hn
  ·have:b≠C:=fun e=>by rw [e,hC] at hb;cases hb
   exact (hs3.2 b this).trans (b2 b o hb hst h4 h5 h6)
 ·obtain ⟨o1,ho1⟩:=g.in_ b o hb
  obtain ⟨o2,ho2⟩:=st.in_ x1 x2 (fun b h=>.inl h) b o1 ho1
  have:b≠C:=fun e=>by rw [e,hC] at hb;cases hb
  exact ⟨o2,(hs3.2 b this).trans ho2⟩
end
end Mine.Internal
end
section
namespace Mine.Internal
open PySem PySem.Spec PyProof.Rows
section
variable {c:Cx} {own:Addr->Option Nat} {ρ:Slots} {s s':Shared}
theorem St.load' {M:Model} {A:Around} {Q:Value->Shared->Prop} {E:Value->Shared->Prop} {y:Str} {i:Nat} {d:PV} (ok:CxOk c) (x:St c own ρ s) (hm:(y,i)∈c.names) (hd:ρ[i]?=some (some d))
  (h:∀ v,VarAt s.heap c.env y v->VRd s.heap c own i d v->Q v s):wpAny M A (loadName c.env y) Q E s:=by
 obtain ⟨v,hv,hr⟩:=x.vars y i d hm hd
 rcases id hv with ⟨k,m,hn,e⟩ | ⟨k,a,hl,hc⟩
 ·exact wpAny_loadName_local ok.kind k hn e (h v hv hr)
 ·exact wpAny_loadName_cell ok.kind k hl hc (h v hv hr)
noncomputable def ListOrDict (o:Obj):Prop:=(∃ vs n,o.data=.seq vs n/\o.cls=.type "list")\/(∃ es n,o.data=.dict es n)
theorem mut_kp {a:Addr} {o:Obj} (ho:s.heap.get? a=some o) (hd:ListOrDict o) {h':Heap} (k:∀ b o,b≠a->s.heap.get? b=some o->h'.get? b=some o) {P:Addr->Prop} (hP:¬ P a):Kp P s.heap h':=fun b o' ho' hm=>by
 refine k b o' (fun e=>?_) ho'
 subst e
 rw [ho] at ho';cases ho'
 rcases hm with ⟨_,_,hd',hc | ⟨hp,_⟩⟩ | ⟨_,_,_,hp,_⟩
 ·rcases hd with ⟨_,_,_,hc'⟩ | ⟨_,_,hd''⟩
  ·rw [hc'] at hc;simp at hc
  ·rw [hd''] at hd';cases hd'
 ·exact hP hp
 ·exact hP hp
theorem St.mutate (ok:CxOk c) (x:St c own ρ s) {y:Str} {i:Nat} (hi:i∈c.mv) (hm:(y,i)∈c.names) {a:Addr} (ha:own a=some i) (hv:VarAt s.heap c.env y (.ref a)) {o:Obj} (ho:s.heap.get? a=some o) (hd:ListOrDict o)
  {h':Heap} {tk:Nat} (k:∀ b o,b≠a->s.heap.get? b=some o->h'.get? b=some o) (hex:∃ o,h'.get? a=some o) {d':PV} (r:RdO h' (Fz c own) (fun b=>own b=some i) d' (.ref a)):
  St c own (ρ.set i (some d')) (up s (h') (tk))/\Evo c own own s (up s (h') (tk))/\∀ b o,s.heap.get? b=some o->∃ o',h'.get? b=some o':=by
 have had:own a≠some dum:=fun e=>by rw [ha] at e;cases e;exact ok.dumNot hi
 have nsne:∀ {b m},own b=some dum->s.heap.Ns b m->h'.Ns b m:=fun {b m} hb ⟨o',es,ep,ho',r⟩=>⟨o',es,ep,k b o' (fun e=>had (e ▸ hb)) ho',r⟩
 have cellk:∀ {b v},s.heap.IsCell b v->h'.IsCell b v:=fun {b v} ⟨o',ho',hd'⟩=>⟨o',k b o' (fun e=>by
  rw [e,ho] at ho';cases ho'
  rcases hd with ⟨_,_,h1,_⟩ | ⟨_,_,h1⟩<;>(rw [hd'] at h1;cases h1)) ho',hd'⟩
 have hin:∀ b o,s.heap.get? b=some o->∃ o',h'.get? b=some o':=fun b o' hb=>by
  by_cases e:b=a
  ·rw [e];exact hex
  ·exact ⟨o',k b o' e hb⟩
 have varTo:∀ {z v},VarAt s.heap c.env z v->VarAt h' c.env z v:=fun {z v} hz=>by
  rcases hz with ⟨k1,m,hn,e⟩ | ⟨k1,b,hl,hc⟩
  ·exact .inl k1 m (nsne x.loc.1 hn) e
  ·exact .inr k1 b hl (cellk hc)
 refine ⟨⟨fun b ob hb=>?_,fun b hb=>?_,?_,x.locNew,fun n b hb=>?_,x.cellNew,fun b hb=>?_,x.ownNew,fun z j e hz he=>?_⟩,⟨⟨h',tk,rfl⟩,fun _ _ _ h=>h,fun b ob hb hst _ _ _=>k b ob (fun e=>?_) hb⟩,hin⟩
 ·have hne:b≠a:=fun e=>by rw [e,x.ownNew a i ha hi] at hb;cases hb
  obtain ⟨h1,sl,h2⟩:=x.base b ob hb
  exact ⟨fun hf=>k b _ hne (h1 hf),sl,k b _ hne h2⟩
 ·obtain ⟨h1,m,h2⟩:=x.fr b hb
  exact ⟨h1,m,nsne h1 h2⟩
 ·obtain ⟨h1,m,h2⟩:=x.loc
  exact ⟨h1,m,nsne h1 h2⟩
 ·obtain ⟨v,h1⟩:=x.cell n b hb
  exact ⟨v,cellk h1⟩
 ·obtain ⟨o',ho'⟩:=x.ownIn b hb
  exact hin b o' ho'
 ·rcases set_get he with ⟨rfl,rfl⟩ | ⟨hne,he'⟩
  ·have:z=y:=nodup_fst ok.nodupI hz hm
   subst this
   exact ⟨_,varTo hv,by unfold VRd;rw [if_pos hi];exact r⟩
  ·obtain ⟨v,h1,h2⟩:=x.vars z j e hz he'
   refine ⟨v,varTo h1,h2.kp (mut_kp ho hd k fun h=>by rw [h.2] at ha;cases ha) fun _=>mut_kp ho hd k fun h=>?_⟩
   rw [ha] at h;cases h;exact hne rfl
 ·subst e
  rcases hst with h | ⟨o1,vs,n,h1,h2,h3⟩
  ·rw [ha] at h;cases h
  ·rw [ho] at h1;cases h1
   rcases hd with ⟨_,_,_,h4⟩ | ⟨_,_,h4⟩
   ·rw [h4] at h2;simp at h2
   ·rw [h4] at h3;cases h3
end
section
variable {f:Fix} {cf:Nat->List PV->Res PV} {own:Addr->Option Nat} {ρ:Slots} {s s₁:Shared} {fr:Bool}
theorem own_list {i:Nat} (hi:i∈f.c.mv) {h:Heap} {l:List PV} {v:Value} (r:VRd h f.c own i (.list l) v):LAt h (fun a=>own a=some i) v l.length (Rds h (Fz f.c own) l):=by
 unfold VRd at r
 rw [if_pos hi] at r
 exact r
theorem own_dict {i:Nat} (hi:i∈f.c.mv) {h:Heap} {l:List (Key×PV)} {v:Value} (r:VRd h f.c own i (.dict l) v):DAt h (fun a=>own a=some i) v l (RdKV h (Fz f.c own) l):=by
 unfold VRd at r
 rw [if_pos hi] at r
 exact r
theorem VRd.grow {c:Cx} (ok:CxOk c) (x:St c own ρ s) {s':Shared} (g:Grow c.A s s') {i:Nat} {d:PV} {v:Value} (r:VRd s.heap c own i d v):VRd s'.heap c own i d v:=
 r.kp (x.kp (fun a h=>fz_dum h) g.h) fun hi=>x.kp (fun a h e=>by rw [h] at e;cases e;exact ok.dumNot hi) g.h
theorem slot_ok {α:Type} {ρ:Slots} {i:Nat} {g:PV->Res α} (h:(slot ρ i).bind g≠.stuck):∃ d,ρ[i]?=some (some d)/\(slot ρ i).bind g=g d:=by
 unfold slot at h ⊢
 split at h
 ·rename_i d hd
  exact ⟨d,hd,by simp [Res.bind]⟩
 ·exact absurd rfl h
theorem append_sound (F:FixOk f) {y:Str} {yp apos cpos pos:Pos} {e:Expr} {i:Nat} {a:PE} {k:Cl} (hd:(y==("__debug__" : Str))=false) (hm:(y,i)∈f.c.names) (hi:i∈f.c.mv) (hev:EvOK f cf e a k) (hk:k.inner=true) (hse:starred e=false)
  (hline:(apos.endLine==cpos.line)=true) (hint:interactive f.c.env=false):ExOK f cf fr (.Expr (.Call (.Attribute (.Name y yp) "append" apos) [e] [] cpos) pos) (.append i a):=by
 intro own ρ s x hn
 dsimp only [xE5] at hn ⊢
 obtain ⟨d0,hd0,e0⟩:=slot_ok hn
 rw [e0] at hn ⊢
 have hst:starEach [e] f.c.env=[(false,eval e f.c.env)]:=starEach_plain hse
 refine wpAny_Expr ?_ hint rfl
 refine wpAny_Call_method (T := "list") (id := "list.append") rfl ?_ hline PySem.F.plainAttrs_list PySem.F.slot_list_append PySem.F.type_list_append ?_
 ·rw [hst];rfl
 refine wpAny_Name (x.load' F.ok hm hd0 fun v hv hr=>?_) (by simpa using hd)
 rw [hst]
 have hl:∃ l,d0=.list l:=by
  cases d0 with
  | list l=>exact ⟨l,rfl⟩
  | _=>exact absurd rfl hn
 obtain ⟨l,rfl⟩:=hl
 dsimp only at hn ⊢
 obtain ⟨ad,vs,rfl,hown,⟨n,hs⟩,hlen,hrs⟩:=own_list hi hr
 refine ⟨⟨_,hs,rfl⟩,fun a' q=>by injection q with q;subst q;exact ⟨_,hs,rfl⟩,?_⟩
 refine P.append_list (hev.useX F x hn fun d v s₁ e1 e2 hn1 g1 x1 r1=>?_)
 rw [e2]
 obtain ⟨ad',vs',hq,hown',⟨n',hs'⟩,hlen',hrs'⟩:=own_list hi (VRd.grow F.ok x g1 hr)
 injection hq with hq;subst hq
 split at hn1
 ·rename_i hl1
  have hl2:l.length < lim:=of_decide_eq_true hl1
  have hsz:=hrs'.length
  rw [Array.length_toList] at hsz
  refine ⟨vs',n',?_,hs',?_⟩
  ·rw [hsz];exact Nat.le_trans hlen' (by decide)
  dsimp only
  have kk:∀ b o,b≠ad->s₁.heap.get? b=some o->(s₁.heap.update ad (Obj.mapSeq fun xs=>xs.push v)).get? b=some o:=fun b o hb ho=>((Heap.SameBut.update ..).2 b hb).trans ho
  obtain ⟨o',ho',hc',hd',hq'⟩:∃ o',(s₁.heap.update ad (Obj.mapSeq fun xs=>xs.push v)).get? ad=some o'/\o'={ cls:=.type "list",dict:=none,data:=.seq (vs'.push v) (Obj.mapSeq (fun xs=>xs.push v) { cls:=.type "list",dict:=none,data:=.seq vs' n',slots:=#[] } |> fun o=>match o.data with | .seq _ m=>m | _=>0),slots:=#[] }/\True/\True:=by
   refine ⟨_,Heap.get?_update_self _ hs' rfl,rfl,trivial,trivial⟩
  subst hc'
  have kpF:Kp (Fz f.c own) s₁.heap (s₁.heap.update ad (Obj.mapSeq fun xs=>xs.push v)):=mut_kp hs' (.inl ⟨_,_,rfl,rfl⟩) kk fun h=>by rw [h.2] at hown;cases hown
  obtain ⟨h1,h2,h3⟩:=x1.mutate F.ok hi hm hown (hv.grow g1.h) hs' (.inl ⟨_,_,rfl,rfl⟩) (tk:=s₁.toks) kk ⟨_,ho'⟩ (d':=.list (l++[d])) ⟨ad,vs'.push v,rfl,hown,⟨_,ho'⟩,by rw [List.length_append];exact hl2,by
   rw [Array.toList_push]
   exact Rds.append (Rds.to kpF l hrs') (Rds.one (Rd.to kpF d (r1.rd x hk)))⟩
  rw [if_pos hl1]
  exact ⟨_,own,rfl,h1,(Evo.grow g1).trans h2 g1.in_,fun b o hb=>let ⟨o1,ho1⟩:=g1.in_ b o hb;h3 b o1 ho1⟩
 ·exact absurd rfl hn1
theorem unpack_sound (F:FixOk f) {es:List Expr} {kd:Nat} {tp pos:Pos} {value:Expr} {is:List Nat} {a:PE} {k:Cl} (ht:TgtAt f.c (Names f.c) (.Tuple es kd tp) (.many is)) (hev:EvOK f cf value a k) (hk:k.inner=true)
  (hs:swapsWithSole [.Tuple es kd tp] value pos.line f.c.env=pure false) (hw:swappedStores [.Tuple es kd tp] value f.c.env=pure none):ExOK f cf fr (.Assign [.Tuple es kd tp] value pos) (.unpack is a):=by
 intro own ρ s x hn
 dsimp only [xE3] at hn ⊢
 refine Assign_Tuple (hev.useX F x hn fun d v s₁ e1 e2 hn1 g1 x1 r1=>?_) hs hw
 rw [e2]
 have hn2:setTgt (.many is) d ρ≠.stuck:=fun q=>hn1 (by rw [q];rfl)
 refine tgt_store (fun _ h=>h) F.ok F.ok.handled ht x1 (r1.rd x hk) hn2 fun ρ' s' e3 x' st=>?_
 rw [e3]
 exact ⟨ρ',own,rfl,x',(Evo.grow g1).trans (Evo.stored x1 (fun _ h=>h) st) g1.in_,fun b o hb=>let ⟨o1,ho1⟩:=g1.in_ b o hb;st.in_ x1 x' (fun _ h=>h) b o1 ho1⟩
theorem ret_sound (F:FixOk f) {e:Expr} {pos:Pos} {a:PE} {k:Cl} (hev:EvOK f cf e a k) (hk:(!fr||k==.fresh||k==.own)=true):ExOK f cf fr (.Return (some e) pos) (.ret a):=by
 intro own ρ s x hn
 dsimp only [xE11] at hn ⊢
 refine wpAny_Return_some (hev.useX F x hn fun d v s₁ e1 e2 hn1 g1 x1 r1=>?_)
 rw [e2]
 obtain ⟨h1,t1,rfl,k1⟩:=id g1
 refine ⟨d,rfl,⟨h1,t1,rfl⟩,x1.base,?_⟩
 unfold RetRd
 cases fr with
 | false=>
  rw [if_neg (by simp)]
  exact Rd.imp (fun a _ _ _ p=>p.1) d (r1.any x)
 | true=>
  rw [if_pos rfl]
  cases k with
  | fresh=>exact RdO.imp (fun a _ _ _ (p:s.heap.get? a=none)=>x.newBase p) (fun a _ _ _ p=>⟨p.1.1,p.2⟩) r1
  | own=>
   have key:∀ {a:Addr},v=.ref a->own a≠none->RdO h1 (Fz f.c own) (fun a=>f.c.h0.get? a=none/\own a≠some dum/\own a≠none) d v->RdO h1 (fun b=>(f.c.P0 b\/f.c.h0.get? b=none)/\v≠.ref b) (fun a=>f.c.h0.get? a=none) d v:=fun {a} hv ha r=>
    RdO.imp (fun a _ _ _ p=>p.1) (fun b _ _ _ p=>⟨p.1,fun e=>by rw [hv] at e;injection e with e;rw [e] at ha;exact ha p.2⟩) r
   cases d with
   | list l=>obtain ⟨a,_,hv,ha,_⟩:=id r1;exact key hv ha.2.2 r1
   | dict l=>obtain ⟨a,_,hv,ha,_⟩:=id r1;exact key hv ha.2.2 r1
   | none=>exact r1
   | bool _=>exact r1
   | int _=>exact r1
   | tuple l=>
    obtain ⟨a,vs,rfl,⟨n,hs⟩,hl,hr⟩:=r1
    refine ⟨a,vs,rfl,⟨n,hs⟩,hl,Rds.imp (fun b o ho hc p=>⟨p.1,fun q=>?_⟩) l hr⟩
    injection q with q;subst q
    rw [hs] at ho;cases ho
    rcases hc with hc | hc<;>simp at hc
  | safe=>cases hk
  | any=>cases hk
theorem ExPost.mono {R:Res Out} {fl:Flow} {s':Shared} (h:Evo f.c own own s s₁) (hin:∀ b o,s.heap.get? b=some o->∃ o',s₁.heap.get? b=some o') (x:ExPost f fr R own s₁ fl s'):ExPost f fr R own s fl s':=by
 cases fl with
 | next=>
  obtain ⟨ρ',own',e,x',ev,hi⟩:=x
  exact ⟨ρ',own',e,x',h.trans ev hin,fun b o hb=>let ⟨o1,ho1⟩:=hin b o hb;hi b o1 ho1⟩
 | ret v=>
  obtain ⟨d,e,⟨h2,t2,rfl⟩,g,r⟩:=x
  obtain ⟨⟨h1,t1,rfl⟩,_⟩:=h
  exact ⟨d,e,⟨h2,t2,rfl⟩,g,r⟩
 | brk=>exact x
 | cont=>exact x
theorem ite_stmt_sound (F:FixOk f) {test:Expr} {body orelse:List Stmt} {pos:Pos} {c:PE} {a b:List PS} (hc:TrOK f cf test c) (ha:ExsOK f cf fr body a) (hb:ExsOK f cf fr orelse b):ExOK f cf fr (.If test body orelse pos) (.ite c a b):=by
 intro own ρ s x hn
 dsimp only [xE8] at hn ⊢
 refine wpAny_If (hc.use F x hn (fun d hd=>by cases d<;>first | rfl | exact absurd rfl (hd _)) fun t s₁ e1 e2 hn1 g1 x1=>?_)
 rw [e2]
 cases t with
 | true=>
  simp only [if_true] at hn1 ⊢
  exact wpAny_mono (ha own ρ s₁ x1 hn1) (fun fl s' q=>ExPost.mono (Evo.grow g1) g1.in_ q) fun _ _ q=>q.elim
 | false=>
  simp only [Bool.false_eq_true,if_false] at hn1 ⊢
  exact wpAny_mono (hb own ρ s₁ x1 hn1) (fun fl s' q=>ExPost.mono (Evo.grow g1) g1.in_ q) fun _ _ q=>q.elim
end
end Mine.Internal
end
section
namespace Mine.Internal
open PySem PySem.Spec PyProof.Rows
section
variable {A:Around} {s:Shared}
theorem forLoop_own {R:Result->Shared->Prop} {target it body env} (I:Nat->Shared->Prop)
  (turn:∀ n s,I n s->wpAny (model prog w) A (pyNext it) (fun r s₁=>match r with
   | none=>R (.ok .next) s₁
   | some v=>wpAny (model prog w) A (letOwnedTupleGo target it v) (fun _ s₁=>wpAny (model prog w) A (assign target env v) (fun _ s₂=>wpAny (model prog w) A (execs body env) (fun f s₃=>match f with
     | .next | .cont=>∃ m,m < n/\I m s₃
     | .brk=>R (.ok .next) s₃
     | .ret v=>R (.ok (.ret v)) s₃) (notedBy (model prog w) A env fun e s'=>R (.error e) s') s₂) (notedBy (model prog w) A env fun e s'=>R (.error e) s') s₁) (notedBy (model prog w) A env fun e s'=>R (.error e) s') s₁) (notedBy (model prog w) A env fun e s'=>R (.error e) s') s)
  (n:Nat) (h:I n s):codeAny (model prog w) A (.forLoop target it body [] env) R s:=by
 refine codeAny_loop' rfl I (fun n s hI=>?_) n h
 show wpAny _ _ ((forTurn target it body [] env).onRaise (fun x=>do noteFrame x env;theTreesLotGoes x)) _ _ s
 refine wpAny_noted ?_
 simp only [forTurn]
 refine wpAny_bind (wpAny_standAt (wpAny_bind (wpAny_onRaise (wpAny_mono (turn n s hI) (fun r s₁ h₁=>?_) fun _ _ h'=>wpAny_standAt h'))))
 cases r with
 | none=>exact wpAny_pure (.inr ⟨rfl,codeAny_block (wpAny_pure h₁)⟩)
 | some v=>
  refine wpAny_bind (wpAny_mono h₁ (fun _ s₁ h₁=>wpAny_bind (wpAny_mono h₁ (fun _ s₂ h₂=>wpAny_bind (wpAny_mono h₂ (fun f s₃ h₃=>?_) fun _ _ h'=>h')) fun _ _ h'=>h')) fun _ _ h'=>h')
  cases f with
  | next=>exact wpAny_pure (.inl ⟨rfl,h₃⟩)
  | cont=>exact wpAny_pure (.inl ⟨rfl,h₃⟩)
  | brk=>exact wpAny_pure h₃
  | ret v=>exact wpAny_pure h₃
end
section
variable {f:Fix} {cf:Nat->List PV->Res PV} {own:Addr->Option Nat} {ρ:Slots} {s s₁:Shared} {fr:Bool}
theorem Evo.loose {c:Cx} {own':Addr->Option Nat} (e:Evo c own own' s s₁) {wr:List Addr} {h':Heap} {tk:Nat} (k:∀ b o,b∉wr->s₁.heap.get? b=some o->h'.get? b=some o) (hw:∀ b∈wr,s.heap.get? b=none):Evo c own own' s (up s₁ (h') (tk)):=by
 obtain ⟨⟨h1,t1,rfl⟩,a1,b1⟩:=e
 exact ⟨⟨h',tk,rfl⟩,a1,fun b o hb h2 h3 h4 h5=>k b o (fun hm=>by rw [hw b hm] at hb;cases hb) (b1 b o hb h2 h3 h4 h5)⟩
theorem noExc_ok {α:Type} {r:Res α} (h:noExc r≠.stuck):∃ a,r=.ok a/\noExc r=.ok a:=by
 cases r with
 | ok a=>exact ⟨a,rfl,rfl⟩
 | stuck=>exact absurd rfl h
theorem for_loop (F:FixOk f) {target:Expr} {body:List Stmt} {tg:Tgt} {b:List PS} (hb:ExsOK f cf fr body b) (ht:TgtAt f.c (Names f.c) target tg) {I:Addr} {fp wr:List Addr} {ds:List PV} {S:Nat->Heap->Prop} {s₂:Shared} {P:Addr->Prop}
  (it:Itr f.c.A P I target fp wr ds S) (hPf:∀ a,P a->(f.c.P0 a\/f.c.h0.get? a=none)/\own a=none/\∃ o,s₂.heap.get? a=some o) (hS:S 0 s₂.heap) (g:Grow f.c.A s s₂) (hwr:∀ b∈wr,s.heap.get? b=none) (hstay:∀ b∈fp,Stay own s₂.heap b) (hfp:∀ b∈fp,b∉frs f.c.A/\b≠f.c.env.locals)
  (x:St f.c own ρ s) {R:Result->Shared->Prop} {out:Out} (hgo:forGo (fun ρ'=>exs cf ρ' b) tg ds ρ=.ok out)
  (hR:∀ fl s',ExPost f fr (.ok out) own s fl s'->R (.ok fl) s'):
  codeAny (model prog w) f.c.A (.forLoop target (.ref I) body [] f.c.env) R s₂:=by
 refine forLoop_own (fun n s'=>∃ i ρ' own',n=ds.length+1-i/\i<=ds.length/\St f.c own' ρ' s'/\S i s'.heap/\Evo f.c own own' s s'/\(∀ b o,s.heap.get? b=some o->∃ o',s'.heap.get? b=some o')/\(∀ b∈fp,Stay own' s'.heap b)/\(∀ a,P a->own' a=none/\∃ o,s'.heap.get? a=some o)/\(∀ b∈wr,own' b=none) /\
  forGo (fun ρ'=>exs cf ρ' b) tg (ds.drop i) ρ'=.ok out) ?_ (ds.length+1)
  ⟨0,ρ,own,rfl,Nat.zero_le _,x.grow F.ok g,hS,Evo.grow g,g.in_,hstay,fun a p=>(hPf a p).2,fun b hb=>x.newOwn (hwr b hb),by simpa using hgo⟩
 rintro n s1 ⟨i,ρ1,own1,rfl,hi,x1,hS1,ev1,in1,st1,p1,w1,hg1⟩
 have hrec:=it.rec_ i s1.heap hS1
 have hlive:=it.live i s1.heap hS1
 have loose:Loose f.c own1 s1 (fun b=>b∈wr):=fun b hb=>by
  obtain ⟨o,vs,ho,hd⟩:=hrec b hb
  exact ⟨x.newBase (hwr b hb),o,ho,.inl ⟨vs,hd⟩⟩
 rcases Nat.lt_or_ge i ds.length with hlt | hge
 ·have hd:ds[i]?=some ds[i]:=List.getElem?_eq_getElem hlt
  rw [List.drop_eq_getElem_cons hlt] at hg1
  generalize ds[i]=d at hd hg1
  simp only [forGo] at hg1
  refine it.turn' (fun _ _=>rfl) hd hS1 ?_
  intro v h2 tk2 hS2 hrd2 hk2
  have live2:=it.live (i+1) h2 hS2
  have x2:St f.c own1 ρ1 (up s1 (h2) (tk2)):=x1.change F.ok loose (fun b hb ho=>absurd (w1 b hb) ho) fun b o hb=>hk2 b o hb
  have ev2:Evo f.c own own1 s (up s1 (h2) (tk2)):=ev1.loose hk2 hwr
  have ex2:∀ b o,s1.heap.get? b=some o->∃ o',h2.get? b=some o':=fun b o hb=>by
   by_cases hw:b∈wr
   ·obtain ⟨o',ho',_⟩:=live2 b (it.sub b hw);exact ⟨o',ho'⟩
   ·exact ⟨o,hk2 b o hw hb⟩
  have st2:∀ b∈fp,Stay own1 h2 b:=fun b hb=>by
   by_cases hw:b∈wr
   ·exact .inl (w1 b hw)
   ·obtain ⟨o,ho,_⟩:=hlive b hb
    exact (st1 b hb).to ho (hk2 b o hw ho) id
  have hns:setTgt tg d ρ1≠.stuck:=fun q=>by rw [q] at hg1;cases hg1
  refine tgt_store (fun _ h=>h) F.ok F.ok.handled ht x2 (Rd.imp (fun a _ _ _ p=>⟨(hPf a p).1,(p1 a p).1⟩) d hrd2) hns fun ρ3 s3 e3 x3 sto3=>?_
  rw [e3] at hg1
  simp only [Res.bind] at hg1
  have kp3:Kp P h2 s3.heap:=sto3.kp x2 (fun _ h=>h) fun a p e=>by rw [(p1 a p).1] at e;cases e
  have evS:Evo f.c own1 own1 (up s1 (h2) (tk2)) s3:=Evo.stored x2 (fun _ h=>h) sto3
  have inS:=sto3.in_ x2 x3 (fun _ h=>h)
  have k3:∀ b∈fp,∀ o,h2.get? b=some o->s3.heap.get? b=some o:=fun b hb o ho=>by
   obtain ⟨o',ho',hnc⟩:=live2 b hb
   rw [ho] at ho';cases ho'
   exact evS.3 b o ho (st2 b hb) (hfp b hb).1 (hfp b hb).2 hnc
  have hS3:S (i+1) s3.heap:=it.frame _ _ _ hS2 k3 kp3
  have live3:=it.live (i+1) s3.heap hS3
  have st3:∀ b∈fp,Stay own1 s3.heap b:=fun b hb=>by
   obtain ⟨o,ho,_⟩:=live2 b hb
   exact (st2 b hb).to ho (k3 b hb o ho) id
  have ev3:Evo f.c own own1 s s3:=ev2.trans evS fun b o hb=>let ⟨o1,ho1⟩:=in1 b o hb;ex2 b o1 ho1
  have in3:∀ b o,s.heap.get? b=some o->∃ o',s3.heap.get? b=some o':=fun b o hb=>by
   obtain ⟨o1,ho1⟩:=in1 b o hb
   obtain ⟨o2,ho2⟩:=ex2 b o1 ho1
   exact inS b o2 ho2
  have hbn:exs cf ρ3 b≠.stuck:=fun q=>by rw [q] at hg1;cases hg1
  refine wpAny_mono (hb own1 ρ3 s3 x3 hbn) (fun fl s4 q=>?_) fun _ _ q=>q.elim
  ·cases fl with
   | next=>
    obtain ⟨ρ4,own4,e4,x4,ev4,in4⟩:=q
    rw [e4] at hg1
    simp only at hg1
    have k4:∀ b∈fp,∀ o,s3.heap.get? b=some o->s4.heap.get? b=some o:=fun b hb o ho=>by
     obtain ⟨o',ho',hnc⟩:=live3 b hb
     rw [ho] at ho';cases ho'
     exact ev4.3 b o ho (st3 b hb) (hfp b hb).1 (hfp b hb).2 hnc
    have p3:∀ a,P a->own1 a=none/\∃ o,s3.heap.get? a=some o:=fun a p=>by
     obtain ⟨h1,o1,ho1⟩:=p1 a p
     obtain ⟨o2,ho2⟩:=ex2 a o1 ho1
     exact ⟨h1,inS a o2 ho2⟩
    refine ⟨ds.length+1-(i+1),by exact o327 hi,i+1,ρ4,own4,rfl,hlt,x4,it.frame _ _ _ hS3 k4 (fun b o ho hm=>?_),ev3.trans ev4 in3,fun b o hb=>let ⟨o1,ho1⟩:=in3 b o hb;in4 b o1 ho1,fun b hb=>?_,fun a p=>?_,fun b hb=>?_,hg1⟩
    ·
     have hst:Stay own1 s3.heap b/\∀ v,o.data≠.cell v:=by
      rcases hm with ⟨vs,n,hd',hc | ⟨hp,hc⟩⟩ | ⟨es,n,hd',hp,hc⟩
      ·exact ⟨.inr ⟨o,vs,n,ho,hc,hd'⟩,fun v q=>by rw [hd'] at q;cases q⟩
      ·exact ⟨.inl (p3 b hp).1,fun v q=>by rw [hd'] at q;cases q⟩
      ·exact ⟨.inl (p3 b hp).1,fun v q=>by rw [hd'] at q;cases q⟩
     have hnf:b∉frs f.c.A/\b≠f.c.env.locals:=by
      rcases hm with ⟨vs,n,hd',_⟩ | ⟨es,n,hd',hp,_⟩
      ·exact x3.notFr ho fun es m q=>by rw [hd'] at q;cases q
      ·exact x3.notFrOwn fun q=>by rw [(p3 b hp).1] at q;cases q
     exact ev4.3 b o ho hst.1 hnf.1 hnf.2 hst.2
    ·obtain ⟨o,ho,_⟩:=live3 b hb
     exact (st3 b hb).to ho (k4 b hb o ho) fun h=>ev4.2 b o ho h
    ·obtain ⟨h1,o1,ho1⟩:=p3 a p
     exact ⟨ev4.2 a o1 ho1 h1,in4 a o1 ho1⟩
    ·obtain ⟨o,ho,_⟩:=live3 b (it.sub b hb)
     exact ev4.2 b o ho (w1 b hb)
   | ret v=>
    obtain ⟨d',e4,⟨h4,t4,rfl⟩,g4,r⟩:=q
    rw [e4] at hg1
    simp only at hg1
    cases hg1
    obtain ⟨⟨h5,t5,rfl⟩,_⟩:=ev3
    exact hR (.ret v) _ ⟨d',rfl,⟨h4,t4,rfl⟩,g4,r⟩
   | brk=>exact q.elim
   | cont=>exact q.elim
 ·have hi':i=ds.length:=by exact o157 hi hge
  subst hi'
  rw [List.drop_length] at hg1
  simp only [forGo] at hg1
  cases hg1
  refine it.done' (fun _=>rfl) hS1 fun h2 tk2 hk2=>?_
  have x2:St f.c own1 ρ1 (up s1 (h2) (tk2)):=x1.change F.ok loose (fun b hb ho=>absurd (w1 b hb) ho) fun b o hb=>hk2 b o hb
  refine hR .next _ ⟨ρ1,own1,rfl,x2,ev1.loose hk2 hwr,fun b o hb=>?_⟩
  obtain ⟨o1,ho1⟩:=in1 b o hb
  exact ⟨o1,hk2 b o1 (fun hm=>by rw [hwr b hm] at hb;cases hb) ho1⟩
theorem for_sound (F:FixOk f) {target iter:Expr} {tup:Bool} (htup:tup=true->∃ elts k pos,target=.Tuple elts k pos) {body:List Stmt} {pos:Pos} {tg:Tgt} {b:List PS} (hb:ExsOK f cf fr body b) (ht:TgtAt f.c (Names f.c) target tg)
  {kk:ItK} {src:List PE} {cl:Cl} (hit:ItOK f cf tup iter kk src cl) (hcl:cl.inner=true):
  ExOK f cf fr (.For target iter body [] pos) (.for_ tg kk src b):=by
 intro own ρ s x hn
 dsimp only [xE9] at hn ⊢
 have asc:((evs cf ρ src).bind fun xs=>(items kk xs).bind fun ds=>noExc (forGo (fun ρ'=>exs cf ρ' b) tg ds ρ))=((evs cf ρ src).bind (items kk)).bind fun ds=>noExc (forGo (fun ρ'=>exs cf ρ' b) tg ds ρ):=by cases evs cf ρ src<;>rfl
 rw [asc] at hn ⊢
 have hni:((evs cf ρ src).bind (items kk))≠.stuck:=fun q=>hn (by rw [q];rfl)
 refine wpAny_For (wpAny_mono (hit.2 htup ht.ok x hni) (fun xv s₁ q=>wpAny_mono q (fun it s₂ q=>?_) fun _ _ q=>q.elim) fun _ _ q=>q.elim) (hit.1 f.c.env)
 obtain ⟨ds,I,fp,wr,S,e1,rfl,itr,hS0,g,hwr,hstay,hlim,hfp⟩:=q
 rw [e1] at hn ⊢
 obtain ⟨out,ho,hoe⟩:=noExc_ok hn
 refine for_loop F hb ht itr (fun a p=>⟨p.1.1,p.1.2,p.2⟩) hS0 g hwr (hstay hcl) hfp x ho fun fl s' q=>?_
 show ExPost f fr ((Res.ok ds).bind fun ds=>noExc (forGo (fun ρ'=>exs cf ρ' b) tg ds ρ)) own s fl s'
 rw [show (Res.ok ds).bind (fun ds=>noExc (forGo (fun ρ'=>exs cf ρ' b) tg ds ρ))=.ok out from hoe]
 exact q
theorem while_sound (F:FixOk f) {test:Expr} {body:List Stmt} {pos:Pos} {c:PE} {b:List PS} (hc:TrOK f cf test c) (hb:ExsOK f cf fr body b):ExOK f cf fr (.While test body [] pos) (.while_ c b):=by
 intro own ρ s x hn
 dsimp only [xE10] at hn ⊢
 obtain ⟨out,ho,hoe⟩:=noExc_ok hn
 rw [hoe]
 refine wpAny_While (codeAny_whileLoop (fun n s'=>∃ ρ' own',St f.c own' ρ' s'/\Evo f.c own own' s s'/\(∀ b o,s.heap.get? b=some o->∃ o',s'.heap.get? b=some o')/\whileGo (fun ρ'=>ev cf ρ' c) (fun ρ'=>exs cf ρ' b) n ρ'=.ok out) ?_ fuel ⟨ρ,own,x,.refl,fun b o h=>⟨o,h⟩,ho⟩)
 rintro n s1 ⟨ρ1,own1,x1,ev1,in1,hg1⟩
 cases n with
 | zero=>cases hg1
 | succ n=>
  obtain ⟨G,hG,hGb,hGt,hGf⟩:∃ G:PV->Res Out,whileGo (fun ρ'=>ev cf ρ' c) (fun ρ'=>exs cf ρ' b) (n+1) ρ1=(ev cf ρ1 c).bind G/\(∀ d,(∀ b,d≠.bool b)->G d=.stuck) /\
    G (.bool true)=((exs cf ρ1 b).bind fun o=>match o with | .next ρ'=>whileGo (fun ρ'=>ev cf ρ' c) (fun ρ'=>exs cf ρ' b) n ρ' | .ret d=>.ok (.ret d))/\G (.bool false)=.ok (.next ρ1):=
   ⟨_,rfl,fun d hd=>by cases d<;>first | rfl | exact absurd rfl (hd _),rfl,rfl⟩
  rw [hG] at hg1
  have hn1:(ev cf ρ1 c).bind G≠.stuck:=fun q=>by rw [hg1] at q;cases q
  refine hc.use F x1 hn1 hGb fun t s2 e1 e2 hn2 g2 x2=>?_
  have hg2:=e2.symm.trans hg1
  have ev2:=ev1.trans (Evo.grow (own:=own1) g2) in1
  have in2:∀ b o,s.heap.get? b=some o->∃ o',s2.heap.get? b=some o':=fun b o hb=>let ⟨o1,ho1⟩:=in1 b o hb;g2.in_ b o1 ho1
  cases t with
  | false=>
   rw [hGf] at hg2
   cases hg2
   exact wpAny_pure ⟨ρ1,own1,rfl,x2,ev2,in2⟩
  | true=>
   rw [hGt] at hg2
   have hbn:exs cf ρ1 b≠.stuck:=fun q=>by rw [q] at hg2;cases hg2
   refine wpAny_mono (hb own1 ρ1 s2 x2 hbn) (fun fl s4 q=>?_) fun _ _ q=>q.elim
   ·cases fl with
    | next=>
     obtain ⟨ρ4,own4,e4,x4,ev4,in4⟩:=q
     rw [e4] at hg2
     exact ⟨n,Nat.lt_succ_self _,ρ4,own4,x4,ev2.trans ev4 in2,fun b o hb=>let ⟨o1,ho1⟩:=in2 b o hb;in4 b o1 ho1,hg2⟩
    | ret v=>
     obtain ⟨d',e4,⟨h4,t4,rfl⟩,g4,r⟩:=q
     rw [e4] at hg2
     cases hg2
     obtain ⟨⟨h5,t5,rfl⟩,_⟩:=ev2
     exact ⟨d',rfl,⟨h4,t4,rfl⟩,g4,r⟩
    | brk=>exact q.elim
    | cont=>exact q.elim
theorem nil_sound (F:FixOk f):ExsOK f cf fr [] []:=fun own ρ s x hn=>wpAny_pure ⟨ρ,own,rfl,x,.refl,fun b o h=>⟨o,h⟩⟩
theorem cons_sound (F:FixOk f) {st:Stmt} {r:List Stmt} {p:PS} {ps:List PS} (h1:ExOK f cf fr st p) (h2:ExsOK f cf fr r ps):ExsOK f cf fr (st::r) (p::ps):=by
 intro own ρ s x hn
 simp only [exsC] at hn ⊢
 have hn1:ex cf ρ p≠.stuck:=fun q=>hn (by rw [q];rfl)
 refine wpAny_execs_cons (wpAny_mono (h1 own ρ s x hn1) (fun fl s1 q=>?_) fun _ _ q=>q.elim)
 ·cases fl with
  | next=>
   obtain ⟨ρ1,own1,e1,x1,ev1,in1⟩:=q
   rw [e1] at hn ⊢
   have hsame:=ev1.1
   refine wpAny_mono (h2 own1 ρ1 s1 x1 hn) (fun fl s2 q=>?_) fun _ _ q=>q.elim
   ·cases fl with
    | next=>
     obtain ⟨ρ4,own4,e4,x4,ev4,in4⟩:=q
     exact ⟨ρ4,own4,e4,x4,ev1.trans ev4 in1,fun b o hb=>let ⟨o1,ho1⟩:=in1 b o hb;in4 b o1 ho1⟩
    | ret v=>
     obtain ⟨d',e4,⟨h4,t4,rfl⟩,g4,r⟩:=q
     obtain ⟨h5,t5,rfl⟩:=hsame
     exact ⟨d',e4,⟨h4,t4,rfl⟩,g4,r⟩
    | brk=>exact q.elim
    | cont=>exact q.elim
  | ret v=>
   obtain ⟨d',e4,r⟩:=q
   rw [e4]
   exact ⟨d',rfl,r⟩
  | brk=>exact q.elim
  | cont=>exact q.elim
end
end Mine.Internal
end
section
namespace Mine.Internal
open PySem PySem.Spec PyProof.Rows
section
variable {K:Type} [DecidableEq K] {knd:HeapKind prog w K} {A:Around} {E:Value->Shared->Prop} {s:Shared}
theorem dictSetHashed_heap {d a:Addr} {xs:List (K×Addr×Value)} {k:K} {v:Value} {Q:Unit->Shared->Prop} (hu:knd.room A) (hkey:knd.is s.heap k a) (hm:s.heap.DictOfH knd d xs)
  (hQ:∀ h',h'.DictOfH knd d (storedH xs k a v)->Heap.SameBut d s.heap h'->Q () { s with heap:=h' })
  (hsz:xs.length<=sizeLine):
  wpAny (model prog w) A (dictSetHashed d (.ref a) (knd.hash k) v) Q E s:=by
 obtain ⟨o,es,ep,ho,hc,hd,he,his,hn⟩:=hm
 unfold dictSetHashed
 try with_reducible refine wpAny_holding ?_
 refine wpAny_bind (wpAny_dictFind_heap hu hkey ho hd he his hn ?_ ?_)
 ·intro hno
  have hnot:k∉xs.map (·.1):=not_mem_keys_of_get hno
  refine wpAny_bind (wpAny_rule (wpAny_updateDictKeys (hz:=by have e:=size_of_entries he;exact o333 hsz e) ho hd (hQ _ ⟨_,_,ep+1,Heap.get?_update_self _ ho (Obj.isFreed_of_dict (Obj.data_mapDictKeys hd _)),
   hc.mapDictKeys _,Obj.data_mapDictKeys hd _,?_,?_,?_⟩ (Heap.SameBut.update ..))))
  ·rw [storedH_new (atKey_none_of_get hno)]
   simp [he,entryOfKey]
  ·rw [storedH_new (atKey_none_of_get hno)]
   intro x hx
   rcases List.mem_append.mp hx with hx | hx
   ·exact knd.keeps (his x hx) ho hd (Heap.SameBut.update ..)
   ·simp only [List.mem_singleton] at hx
    subst hx
    exact knd.keeps hkey ho hd (Heap.SameBut.update ..)
  ·rw [storedH_new (atKey_none_of_get hno)]
   rw [List.map_append,List.nodup_append]
   refine ⟨hn,by simp,?_⟩
   intro x hx y hy
   simp only [List.map_cons,List.map_nil,List.mem_singleton] at hy
   subst hy
   exact fun e=>hnot (e ▸ hx)
 ·intro j p hj
  refine wpAny_bind (wpAny_rule (wpAny_bind (wpAny_updateDict ho hd (wpAny_point (hQ _ ⟨_,_,ep,Heap.get?_update_self _ ho (Obj.isFreed_of_dict (Obj.data_mapDict hd _)),
   hc.mapDict _,Obj.data_mapDict hd _,?_,?_,?_⟩ (Heap.SameBut.update ..))))))
  ·rw [storedH_old (atKey_of_get hn hj)]
   have:=modify_map_putAt (entryOfKey knd) (fun e:DictEntry=>{ e with val:=v }) k v (fun _ _=>rfl) hn hj
   rw [<-he] at this
   obtain ⟨l⟩:=es
   simpa using this
  ·rw [storedH_old (atKey_of_get hn hj)]
   intro x hx
   obtain ⟨y,hy,rfl⟩:=List.mem_map.mp hx
   unfold putAt
   split<;>exact knd.keeps (his y hy) ho hd (Heap.SameBut.update ..)
  ·rw [storedH_old (atKey_of_get hn hj)]
   rw [keys_map_putAt];exact hn
noncomputable def mergedH (xs more:List (K×Addr×Value)):List (K×Addr×Value):=more.foldl (fun acc x=>storedH acc x.1 x.2.1 x.2.2) xs
theorem mergedH_take_succ (xs more:List (K×Addr×Value)) (i:Nat) (x:K×Addr×Value) (h:more[i]?=some x):mergedH xs (more.take (i+1))=storedH (mergedH xs (more.take i)) x.1 x.2.1 x.2.2:=by
 simp [mergedH,List.take_add_one,h,List.foldl_append]
theorem storedH_length_le (xs:List (K×Addr×Value)) (k:K) (a:Addr) (v:Value):(storedH xs k a v).length<=xs.length+1:=by
 unfold storedH;split<;>simp
theorem mergedH_length_le (xs more:List (K×Addr×Value)):(mergedH xs more).length<=xs.length+more.length:=by
 induction more generalizing xs with
 | nil=>simp [mergedH]
 | cons x rest ih=>
  have e1:=ih (storedH xs x.1 x.2.1 x.2.2)
  have e2:=storedH_length_le xs x.1 x.2.1 x.2.2
  simp only [mergedH,List.foldl_cons,List.length_cons] at e1 ⊢
  exact o332 e1 e2
theorem mergedH_fresh (acc more:List (K×Addr×Value)) (hn:((acc++more).map (·.1)).Nodup):mergedH acc more=acc++more:=by
 induction more generalizing acc with
 | nil=>simp [mergedH]
 | cons x rest ih=>
  have hfresh:atKey acc x.1=none:=by
   refine atKey_none_of_get fun j p hj=>?_
   rw [List.map_append,List.map_cons,List.nodup_append] at hn
   exact hn.2.2 x.1 (List.mem_map.mpr ⟨_,List.mem_of_getElem? hj,rfl⟩) x.1 List.mem_cons_self rfl
  have:mergedH acc (x::rest)=mergedH (acc++[x]) rest:=by
   simp only [mergedH,List.foldl_cons,storedH_new hfresh]
  rw [this,ih (acc++[x]) (by simpa using hn)]
  simp
theorem filter_one {α:Type} {g:α->Int} {c:Int}:∀ {l:List α},(l.map g).Nodup->(l.filter fun x=>g x==c).length<=1
 | [],_=>by simp
 | x::l,h=>by
  simp only [List.map_cons,List.nodup_cons] at h
  have ih:=filter_one (c:=c) h.2
  by_cases hx:(g x==c)=true
  ·have:l.filter (fun x=>g x==c)=[]:=by
    rw [List.filter_eq_nil_iff]
    intro y hy hq
    exact h.1 (List.mem_map.mpr ⟨y,hy,(eq_of_beq hq).trans (eq_of_beq hx).symm⟩)
   rw [List.filter_cons,if_pos hx,this];simp
  ·rw [List.filter_cons,if_neg hx];exact ih
end
section
variable {A:Around} {E:Value->Shared->Prop} {s:Shared}
noncomputable abbrev tk:HeapKind prog w (List Int):=tupleKind (intKind prog w)
theorem entriesForEmpty_heap {id:String} {d:Addr} {o:Obj} {es ep} {xs:List (List Int×Addr×Value)} {Q:Array DictEntry->Shared->Prop} (ho:s.heap.get? d=some o) (hd:o.data=.dict es ep) (he:es.toList=xs.map (entryOfKey (tk)))
  (his:∀ x∈xs,(tk).is s.heap x.1 x.2.1) (hh:(xs.map fun x=>(tk).hash x.1).Nodup) (h:Q es s):
  wpAny (model prog w) A (Builtin.Dict.entriesForEmpty id d) Q E s:=by
 unfold Builtin.Dict.entriesForEmpty
 refine wpAny_bind (wpAny_dictEntries ho hd ?_)
 refine wpAny_bind ?_
 rw [<-Array.forIn_toList]
 refine wpAny_forIn_list _ (fun rest _ s'=>s'=s/\∀ e∈rest,e∈es.toList) _ ?_ ?_ _ _ ⟨rfl,fun e h=>h⟩
 ·rintro e rest b s' ⟨rfl,hr⟩
  have hm:=hr e List.mem_cons_self
  rw [he] at hm
  obtain ⟨x,hx,rfl⟩:=List.mem_map.mp hm
  obtain ⟨o',it,n,ho',hc',_⟩:=his x hx
  refine wpAny_bind ?_
  show wpAny _ _ (do return (<-specialOf (.ref x.2.1) "__eq__")==some (.builtin "object.__eq__")) _ _ s'
  refine wpAny_bind (wpAny_specialOf ⟨o',ho',hc'⟩ F.slot_tuple_eq.lookup (wpAny_pure ?_))
  have hsz:¬ (es.filter (fun y=>y.hash==(entryOfKey (tk) x).hash)).size > 1:=by
   have h1:(es.filter (fun y=>y.hash==(entryOfKey (tk) x).hash)).size=(es.toList.filter (fun y=>y.hash==(entryOfKey (tk) x).hash)).length:=by
    rw [<-Array.length_toList,Array.toList_filter]
   rw [h1,he,List.filter_map,List.length_map]
   have:=filter_one (g:=fun x:List Int×Addr×Value=>(tk).hash x.1) (c:=(tk).hash x.1) hh
   exact Nat.not_lt.mpr this
  have hq:(some (Value.builtin "tuple.__eq__")==some (Value.builtin "object.__eq__"))=false:=by decide
  rw [hq]
  simp only [Bool.not_false,if_true,if_neg hsz]
  exact wpAny_pure ⟨rfl,fun e h=>hr e (List.mem_cons_of_mem _ h)⟩
 ·rintro b s' ⟨rfl,_⟩
  exact wpAny_pure h
theorem is_keeps {h h':Heap} {d:Addr} {o:Obj} {es ep} {xs:List (List Int×Addr×Value)} (ho:h.get? d=some o) (hd:o.data=.dict es ep) (hs:Heap.SameBut d h h') (hx:∀ x∈xs,(tk).is h x.1 x.2.1):∀ x∈xs,(tk).is h' x.1 x.2.1:=
 fun x hm=>(tk).keeps (hx x hm) ho hd hs
theorem mergeDict_heap {nm:String} {d o:Addr} {xs more:List (List Int×Addr×Value)} {Q:Unit->Shared->Prop} (hu:(tk).room A) (hdo:d≠o) (hoS:(o==sysModules)=false)
  (hd:s.heap.DictOfH (tk) d xs) (ho:s.heap.DictOfH (tk) o more) (hh:xs=[]->(more.map fun x=>(tk).hash x.1).Nodup)
  (hQ:∀ h',h'.DictOfH (tk) d (mergedH xs more)->Heap.SameBut d s.heap h'->Q () { s with heap:=h' })
  (hsz:xs.length+more.length<=sizeLine):
  wpAny (model prog w) A (Builtin.Dict.mergeDict nm d o) Q E s:=by
 obtain ⟨od,esd,epd,hod,hcd,hdd,hed,hid,hnd⟩:=id hd
 obtain ⟨oo,eso,epo,hoo,hco,hdo',heo,hio,hno⟩:=id ho
 unfold Builtin.Dict.mergeDict
 rw [if_neg (by simpa using hdo)]
 unfold Builtin.Dict.showsAll
 rw [if_neg (by rw [hoS];exact Bool.false_ne_true)]
 refine wpAny_bind (wpAny_pure ?_)
 refine wpAny_bind (wpAny_dictEntries hoo hdo' ?_)
 have hlen:more.length=eso.size:=(size_of_entries heo).symm
 have loop:wpAny (model prog w) A (do
   let epoch <-dictEpoch o
   let l <-dictEntries o
   forIn [:l.size] PUnit.unit fun i (_:PUnit)=>(do
     let l' <-dictEntries o
     match l'[i]? with
      | some e=>do
       holding [e.key,e.val] (dictSetHashed d e.key e.hash e.val)
       let ep' <-dictEpoch o
       if (ep' != epoch)=true then do
         (unsupported (toString nm++toString ":source-changed-during-callback"):Sem PUnit)
         pure (ForInStep.yield PUnit.unit)
        else pure (ForInStep.yield PUnit.unit)
      | _=>do
       (unsupported "internal:dict-merge" : Sem PUnit)
       pure (ForInStep.yield PUnit.unit):Sem (ForInStep PUnit))
   pure ()) Q E s:=by
  refine wpAny_bind (wpAny_dictEpoch hoo hdo' ?_)
  refine wpAny_bind (wpAny_dictEntries hoo hdo' ?_)
  refine wpAny_bind ?_
  rw [Std.Legacy.Range.forIn_eq_forIn_range']
  simp only [Std.Legacy.Range.size,Nat.sub_zero,Nat.add_sub_cancel,Nat.div_one]
  refine wpAny_forIn_list _
   (fun rest _ s'=>∃ h' i,s'={ s with heap:=h' }/\rest=List.range' i (eso.size-i)/\i<=eso.size/\h'.DictOfH (tk) d (mergedH xs (more.take i))/\h'.get? o=some oo/\Heap.SameBut d s.heap h')
   _ ?_ ?_ _ _ ⟨s.heap,0,rfl,by simp,Nat.zero_le _,by simpa [mergedH] using hd,hoo,Heap.SameBut.refl _ _⟩
  ·rintro x rest b s' ⟨h',i,rfl,hr,hi,hd',hoo',hs'⟩
   have hlt:i < eso.size:=by
    rcases Nat.lt_or_ge i eso.size with h | h
    ·exact h
    ·rw [Nat.sub_eq_zero_of_le h] at hr;simp at hr
   obtain ⟨rfl,hrest⟩:x=i/\rest=List.range' (i+1) (eso.size-(i+1)):=by
    have e:eso.size-i=(eso.size-(i+1))+1:=by exact o12 hlt
    rw [e,List.range'_succ] at hr
    injection hr with h1 h2
    exact ⟨h1,h2⟩
   refine wpAny_bind (wpAny_dictEntries hoo' hdo' ?_)
   have hx:more[x]?=some (more[x]'(by rw [hlen];exact hlt)):=List.getElem?_eq_getElem _
   generalize more[x]'(by rw [hlen];exact hlt)=kv at hx
   have hes:eso[x]?=some (entryOfKey (tk) kv):=by rw [entry_at heo x,hx];rfl
   rw [hes]
   have hmx:(mergedH xs (more.take x)).length<=sizeLine:=by
    have e1:=mergedH_length_le xs (more.take x)
    have e2:(more.take x).length<=more.length:=by rw [List.length_take];exact o334
    exact o335 hsz e1 e2
   have hkey:(tk).is h' kv.1 kv.2.1:=is_keeps hod hdd hs' hio kv (List.mem_of_getElem? hx)
   refine wpAny_bind (wpAny_holding (dictSetHashed_heap (knd:=tk) hu hkey hd' (fun h'' hd'' hs''=>?_) hmx))
   have hoo'':h''.get? o=some oo:=(hs''.2 o (Ne.symm hdo)).trans hoo'
   refine wpAny_bind (wpAny_dictEpoch hoo'' hdo' ?_)
   rw [if_neg (by simp)]
   exact wpAny_pure ⟨h'',x+1,rfl,hrest,hlt,by rw [mergedH_take_succ xs more x kv hx];exact hd'',hoo'',hs'.trans hs''⟩
  ·rintro b s' ⟨h',i,rfl,hr,hi,hd',hoo',hs'⟩
   have hin:i=eso.size:=by
    rcases Nat.lt_or_ge i eso.size with h | h
    ·have e:eso.size-i=(eso.size-(i+1))+1:=by exact o12 h
     rw [e,List.range'_succ] at hr;exact nomatch hr
    ·exact Nat.le_antisymm hi h
   refine wpAny_pure (hQ h' ?_ hs')
   rw [hin,<-hlen,List.take_length] at hd';exact hd'
 dsimp only
 split
 ·refine wpAny_bind (wpAny_dictEntries hod hdd ?_)
  split
  ·rename_i hemp
   have hkvs:xs=[]:=by
    have h0:esd=#[]:=Array.isEmpty_iff.mp hemp
    have:=size_of_entries hed;rw [h0] at this;exact List.length_eq_zero_iff.mp (by simpa using this.symm)
   have hh':=hh hkvs
   subst hkvs
   refine wpAny_bind (entriesForEmpty_heap hoo hdo' heo hio hh' ?_)
   rw [mergedH_fresh [] more (by simpa using hno),List.nil_append] at hQ
   split
   ·have hto:eso.size<=sizeLine+1:=by
     simp only [List.length_nil,Nat.zero_add] at hsz
     exact o336 hlen hsz
    have hsb:Heap.SameBut d s.heap (s.heap.update d (Obj.mapDictKeys fun _=>eso)):=Heap.SameBut.update ..
    refine wpAny_bind (wpAny_updateDictKeysTo hod hdd (wpAny_pure (hQ _ ⟨_,_,epd+1,Heap.get?_update_self _ hod (Obj.isFreed_of_dict (Obj.data_mapDictKeys hdd _)),hcd.mapDictKeys _,
     Obj.data_mapDictKeys hdd _,heo,is_keeps hod hdd hsb hio,hno⟩ hsb)) hto)
   ·rename_i hne
    have h0:eso=#[]:=Array.isEmpty_iff.mp (by simpa using hne)
    have hm0:more=[]:=List.length_eq_zero_iff.mp (by rw [hlen,h0];rfl)
    subst hm0
    exact wpAny_pure (hQ _ hd (Heap.SameBut.refl _ _))
  ·exact loop
 ·exact loop
theorem meets_update_heap (d o:Addr) (hdo:d≠o) (hoS:(o==sysModules)=false):
  MeetsIn prog w (Builtin.«dict.update» ⟨[.ref d,.ref o],[]⟩) (fun A R s=>(tk).room A.in1/\∃ xs more,s.heap.DictOfH (tk) d xs/\s.heap.DictOfH (tk) o more/\(xs=[]->(more.map fun x=>(tk).hash x.1).Nodup)/\xs.length+more.length<=sizeLine /\
   ∀ h',h'.DictOfH (tk) d (mergedH xs more)->Heap.SameBut d s.heap h'->R (.ok (.ret .none)) { s with heap:=h' }):=
 .of_wp fun A R s ⟨hu,kvs,more,hd,ho,hh,hsz,h⟩=>by
  unfold Builtin.«dict.update»
  refine wpAny_bind ?_
  unfold Builtin.Dict.selfAndRest
  refine wpAny_bind (wpAny_notOrdered_dict hd.typeIs ?_)
  show wpAny _ _ (pure (d,[Value.ref o])) _ _ s
  refine wpAny_pure ?_
  show wpAny _ _ (Builtin.Dict.updateFrom "dict.update" d (.ref o) [] .none) _ _ s
  unfold Builtin.Dict.updateFrom
  refine wpAny_bind (wpAny_typeOf ho.typeIs ?_)
  rw [if_neg (by decide)]
  refine wpAny_bind ?_
  unfold Builtin.Dict.merge
  refine wpAny_bind ?_
  ·unfold Builtin.Dict.readDirectly
   refine wpAny_bind (wpAny_isInstance ho.typeIs isSubtype_dict_dict ?_)
   simp only [Bool.not_true,Bool.false_eq_true,if_false]
   refine wpAny_bind (wpAny_specialOf ho.typeIs F.slot_dict_iter.lookup (wpAny_pure ?_))
   simp only [beq_self_eq_true,if_true]
   refine wpAny_bind (wpAny_pure ?_)
   refine mergeDict_heap hu hdo hoS hd ho hh (fun h' hd' hs'=>?_) hsz
   show wpAny _ _ (Builtin.Dict.addKeywords d [] >>= _) _ _ _
   exact wpAny_bind (wpAny_pure (wpAny_pure ⟨.none,rfl,h h' hd' hs'⟩))
end
end Mine.Internal
end
section
namespace Mine.Internal
open PySem PySem.Spec PyProof.Rows
section
variable {h:Heap} {P:Addr->Prop}
theorem dput_len (l:List (Key×PV)) (k:Key) (d:PV):(dput l k d).length<=l.length+1:=by unfold dput;split<;>simp
theorem dupd_len (l m:List (Key×PV)):(dupd l m).length<=l.length+m.length:=by
 induction m generalizing l with
 | nil=>simp [dupd]
 | cons p m ih=>
  have e1:=ih (dput l p.1 p.2)
  have e2:=dput_len l p.1 p.2
  simp only [dupd,List.foldl_cons,List.length_cons] at e1 ⊢
  exact o332 e1 e2
theorem dput_pair {α:Type} {g:α->Key} {val:α->Value} {k:Key} {d:PV} {v:Value} {put:α->α} {has:Bool} {new:α} (hd:Rd h P d v) (hput:∀ x,g (put x)=g x/\val (put x)=if g x=k then v else val x) (hnew:g new=k/\val new=v):
  ∀ {l:List (Key×PV)} {xs:List α},l.map (·.1)=xs.map g->RdKV h P l (xs.map val) ->
   (l.map fun p=>if p.1=k then (p.1,d) else p).map (·.1)=(xs.map put).map g/\RdKV h P (l.map fun p=>if p.1=k then (p.1,d) else p) ((xs.map put).map val) /\
   (l++[(k,d)]).map (·.1)=(xs++[new]).map g/\RdKV h P (l++[(k,d)]) ((xs++[new]).map val)
 | [],xs,e,r=>by
  cases xs with
  | nil=>exact ⟨rfl,rfl,by simp [hnew.1],⟨v,[],by simp [hnew.2],hd,rfl⟩⟩
  | cons _ _=>simp at e
 | (k',d')::l,xs,e,r=>by
  cases xs with
  | nil=>simp at e
  | cons x xs=>
   simp only [List.map_cons,List.cons.injEq] at e
   obtain ⟨v',r',e2,a,b⟩:=r
   simp only [List.map_cons,List.cons.injEq] at e2
   obtain ⟨rfl,rfl⟩:=e2
   obtain ⟨h1,h2,h3,h4⟩:=dput_pair (has:=has) hd hput hnew e.2 b
   obtain ⟨p1,p2⟩:=hput x
   refine ⟨?_,?_,?_,?_⟩
   ·simp only [List.map_cons,List.cons.injEq]
    refine ⟨?_,h1⟩
    rw [p1,<-e.1];split<;>rfl
   ·simp only [List.map_cons]
    rw [p2,<-e.1]
    split
    ·exact ⟨v,_,rfl,hd,h2⟩
    ·exact ⟨val x,_,rfl,a,h2⟩
   ·simp only [List.cons_append,List.map_cons,List.cons.injEq]
    exact ⟨e.1,h3⟩
   ·exact ⟨val x,_,rfl,a,h4⟩
theorem dput_int {i:Int} {d:PV} {v:Value} (hd:Rd h P d v) {l:List (Key×PV)} {kvs:List (Int×Value)} (e:l.map (·.1)=kvs.map (fun p=>Key.int p.1)) (r:RdKV h P l (kvs.map (·.2))):
  (dput l (.int i) d).map (·.1)=(stored kvs i v).map (fun p=>Key.int p.1)/\RdKV h P (dput l (.int i) d) ((stored kvs i v).map (·.2)):=by
 obtain ⟨h1,h2,h3,h4⟩:=dput_pair (g:=fun p:Int×Value=>Key.int p.1) (val:=(·.2)) (k:=.int i) (put:=fun kv=>if kv.1=i then (kv.1,v) else kv) (has:=true) (new:=(i,v)) hd
  (fun x=>by by_cases q:x.1=i<;>simp [q]) ⟨rfl,rfl⟩ e r
 have hany:dhas l (.int i)=kvs.any (fun kv=>kv.1=i):=by
  have hv:=(valueAt_dget (i:=i) e r).1
  rw [hv]
  clear hv h1 h2 h3 h4 e r
  induction kvs with
  | nil=>rfl
  | cons p ps ih=>
   by_cases q:p.1=i
   ·simp [valueAt,q]
   ·simp only [List.any_cons,q,decide_false,Bool.false_or]
    rw [<-ih]
    simp [valueAt,q]
 unfold dput stored
 rw [hany]
 split
 ·exact ⟨h1,h2⟩
 ·exact ⟨h3,h4⟩
theorem dput_tup {i:List Int} {d:PV} {v:Value} {a:Addr} (hd:Rd h P d v) {l:List (Key×PV)} {xs:List (List Int×Addr×Value)} (e:l.map (·.1)=xs.map (fun p=>Key.tup p.1)) (r:RdKV h P l (xs.map (·.2.2))):
  (dput l (.tup i) d).map (·.1)=(storedH xs i a v).map (fun p=>Key.tup p.1)/\RdKV h P (dput l (.tup i) d) ((storedH xs i a v).map (·.2.2)):=by
 obtain ⟨h1,h2,h3,h4⟩:=dput_pair (g:=fun p:List Int×Addr×Value=>Key.tup p.1) (val:=(·.2.2)) (k:=.tup i) (put:=putAt i v) (has:=true) (new:=(i,a,v)) hd
  (fun x=>by unfold putAt;by_cases q:x.1=i<;>simp [q]) ⟨rfl,rfl⟩ e r
 have hany:dhas l (.tup i)=(atKey xs i).isSome:=(atKey_dget (i:=i) e r).1
 unfold dput storedH
 rw [hany]
 split
 ·exact ⟨h1,h2⟩
 ·exact ⟨h3,h4⟩
theorem dupd_tup:∀ {m:List (Key×PV)} {more:List (List Int×Addr×Value)} {l:List (Key×PV)} {xs:List (List Int×Addr×Value)},m.map (·.1)=more.map (fun p=>Key.tup p.1)->RdKV h P m (more.map (·.2.2))->l.map (·.1)=xs.map (fun p=>Key.tup p.1)->RdKV h P l (xs.map (·.2.2)) ->
  (dupd l m).map (·.1)=(mergedH xs more).map (fun p=>Key.tup p.1)/\RdKV h P (dupd l m) ((mergedH xs more).map (·.2.2))
 | [],more,l,xs,e,r,e',r'=>by
  cases more with
  | nil=>exact ⟨e',r'⟩
  | cons _ _=>simp at e
 | (k,d)::m,more,l,xs,e,r,e',r'=>by
  cases more with
  | nil=>simp at e
  | cons x more=>
   simp only [List.map_cons,List.cons.injEq] at e
   obtain ⟨v',r1,e2,a,b⟩:=r
   simp only [List.map_cons,List.cons.injEq] at e2
   obtain ⟨rfl,rfl⟩:=e2
   obtain ⟨rfl,e3⟩:=e
   obtain ⟨h1,h2⟩:=dput_tup (i:=x.1) (a:=x.2.1) a e' r'
   have:=dupd_tup e3 b h1 h2
   exact this
theorem TKs.stored {xs:List (List Int×Addr×Value)} {i:List Int} {a:Addr} {v:Value} (x:TKs h xs) (q:∃ us,SeqAt h "tuple" a us/\us.size<=lim):TKs h (storedH xs i a v):=fun y hy=>by
 unfold storedH at hy
 split at hy
 ·obtain ⟨z,hz,rfl⟩:=List.mem_map.mp hy
  unfold putAt
  split<;>exact x z hz
 ·rcases List.mem_append.mp hy with hy | hy
  ·exact x y hy
  ·rw [List.mem_singleton.mp hy];exact q
theorem TKs.merged:∀ {more xs:List (List Int×Addr×Value)},TKs h xs->TKs h more->TKs h (mergedH xs more)
 | [],_,x,_=>x
 | p::more,xs,x,q=>TKs.merged (more:=more) (x.stored (q p List.mem_cons_self)) fun y hy=>q y (List.mem_cons_of_mem _ hy)
theorem TKs.but {h':Heap} {xs:List (List Int×Addr×Value)} {d:Addr} {o:Obj} {es n} (x:TKs h xs) (ho:h.get? d=some o) (hd:o.data=.dict es n) (hs:Heap.SameBut d h h'):TKs h' xs:=fun y hy=>by
 obtain ⟨us,⟨m,q⟩,l⟩:=x y hy
 refine ⟨us,⟨m,(hs.2 _ fun e=>?_).trans q⟩,l⟩
 rw [e,ho] at q;cases q;cases hd
theorem dictRep_obj {a:Addr} {ks:List Key} {vs:List Value} (x:DictRep h a ks vs):∃ o es n,h.get? a=some o/\o.data=.dict es n/\o.cls=.type "dict" /\ o.dict=none:=by
 rcases x with ⟨_,⟨o,es,ep,ho,hx,hd,_⟩,_⟩ | ⟨_,⟨o,es,ep,ho,hx,hd,_⟩,_⟩<;>exact ⟨o,es,ep,ho,hd,hx.1,hx.2.1⟩
end
section
variable {f:Fix} {cf:Nat->List PV->Res PV} {own:Addr->Option Nat} {ρ:Slots} {s s₁:Shared} {fr:Bool}
theorem setItem_sound (F:FixOk f) {y:Str} {yp sp pos:Pos} {ix value:Expr} {i:Nat} {a b:PE} {k kb:Cl} (hd:(y==("__debug__" : Str))=false) (hm:(y,i)∈f.c.names) (hi:i∈f.c.mv) (hev:EvOK f cf value a k) (hk:k.inner=true) (heb:EvOK f cf ix b kb) (hkb:kb.inner=true)
  (hs:swapsWith value (some (.Subscript (.Name y yp) ix sp)) pos.line f.c.env=pure false):ExOK f cf fr (.Assign [.Subscript (.Name y yp) ix sp] value pos) (.setItem i b a):=by
 intro own ρ s x hn
 dsimp only [xE4] at hn ⊢
 refine wpAny_Assign_Subscript (hev.useX F x hn fun d v s₁ e1 e2 hn1 g1 x1 r1=>?_) hs
 rw [e2]
 obtain ⟨d0,hd0,e0⟩:=slot_ok hn1
 rw [e0] at hn1 ⊢
 refine wpAny_Name (x1.load' F.ok hm hd0 fun v0 hv hr=>?_) (by simpa using hd)
 have hl:∃ l,d0=.dict l:=by
  cases d0 with
  | dict l=>exact ⟨l,rfl⟩
  | _=>exact absurd rfl hn1
 obtain ⟨l,rfl⟩:=hl
 dsimp only at hn1 ⊢
 have hsame:∃ h' tk,s₁=(up s (h') (tk)):=let ⟨h1,t1,e,_⟩:=g1;⟨h1,t1,e⟩
 refine heb.use F x1 hn1 fun kd kv s₂ e3 e4 hn2 g2 x2 r2=>?_
 ·rw [e4]
  obtain ⟨ad,vs,hv0,hown,ha1,hlen,hq,hrkv⟩:=own_dict hi (VRd.grow F.ok x1 g2 hr)
  subst hv0
  have hval:Rd s₂.heap (Fz f.c own) d v:=Rd.to (x1.kp (fun a h=>fz_dum h) g2.h) d (r1.rd x hk)
  have hkey:=r2.rd x1 hkb
  split at hn2
  ·rename_i kk hkk
   split at hn2
   ·rename_i hc
    rw [if_pos hc]
    simp only [Bool.and_eq_true,decide_eq_true_eq] at hc
    obtain ⟨o0,es0,n0,ho0,hd0',hc0,_⟩:=dictRep_obj hq
    have evo:Evo f.c own own s s₂:=(Evo.grow g1).trans (Evo.grow g2) g1.in_
    have inn:∀ b o,s.heap.get? b=some o->∃ o',s₂.heap.get? b=some o':=fun b o hb=>let ⟨o1,ho1⟩:=g1.in_ b o hb;g2.in_ b o1 ho1
    have fin:∀ h' tk,Heap.SameBut ad s₂.heap h'->(∀ vs',DictRep h' ad ((dput l kk d).map (·.1)) vs'->RdKV s₂.heap (Fz f.c own) (dput l kk d) vs'->ExPost f fr (.ok (.next (ρ.set i (some (.dict (dput l kk d)))))) own s .next (up s₂ (h') (tk))):=by
     intro h' tk hsb vs' hq' hr'
     have k':∀ b o,b≠ad->s₂.heap.get? b=some o->h'.get? b=some o:=fun b o hb ho=>(hsb.2 b hb).trans ho
     have kpF:Kp (Fz f.c own) s₂.heap h':=mut_kp ho0 (.inr ⟨_,_,hd0'⟩) k' fun h=>by rw [h.2] at hown;cases hown
     obtain ⟨o1,_,_,ho1,_⟩:=dictRep_obj hq'
     obtain ⟨h1,h2,h3⟩:=x2.mutate F.ok hi hm hown (hv.grow g2.h) ho0 (.inr ⟨_,_,hd0'⟩) (tk:=tk) k' ⟨o1,ho1⟩ (d':=.dict (dput l kk d)) ⟨ad,vs',rfl,hown,ha1,by have:=dput_len l kk d;exact o337 hc.2 this,hq',RdKV.to kpF _ hr'⟩
     exact ⟨_,own,rfl,h1,evo.trans h2 inn,fun b o hb=>let ⟨o1,ho1⟩:=inn b o hb;h3 b o1 ho1⟩
    have hlen':=(RdKV.rds hrkv).length
    have hsz:l.length<=sizeLine:=Nat.le_trans hlen (by decide)
    cases kd with
    | int j=>
     cases hkk
     obtain ⟨t,rfl⟩:=hkey
     obtain ⟨kvs,hdo,e5,e6⟩:=hq.int hc.1
     rw [e6] at hrkv
     obtain ⟨q1,q2⟩:=dput_int (i:=j) hval e5 hrkv
     have hkl:kvs.length<=sizeLine:=by have:=congrArg List.length e5;simp only [List.length_map] at this;exact o339 hsz this
     refine wpAny_setItem_pairs (isInt_int j t) hdo (fun h' hdo' hsb=>?_) hkl
     exact fin h' _ hsb _ (.inl ⟨_,hdo',q1,rfl⟩) q2
    | tuple tl=>
     simp only [PV.key?,Option.map_eq_some_iff] at hkk
     obtain ⟨is,his,rfl⟩:=hkk
     obtain ⟨ka,us,rfl,⟨m,hks⟩,hkn,hkr⟩:=hkey
     obtain ⟨xs,hdo,e5,e6,htk⟩:=hq.tup hc.1
     rw [e6] at hrkv
     obtain ⟨q1,q2⟩:=dput_tup (i:=is) (a:=ka) hval e5 hrkv
     have hkey':(tupleKind (intKind prog w)).is s₂.heap is ka:=⟨_,us,m,hks,rfl,rfl,itemsAre_ints his hkr⟩
     have hkl:xs.length<=sizeLine:=by have:=congrArg List.length e5;simp only [List.length_map] at this;exact o339 hsz this
     refine wpAny_setItem_heap (tupleKind_room_in1 (by have:=F.ok.units;exact o291 this)) hkey' hdo (fun h' hdo' hsb=>?_) hkl
     exact fin h' _ hsb _ (.inr ⟨_,hdo',q1,rfl,(htk.stored ⟨us,⟨m,hks⟩,by rw [<-Array.length_toList,hkr.length];exact hkn⟩).but ho0 hd0' hsb⟩) q2
    | _=>cases hkk
   ·exact absurd rfl hn2
  ·exact absurd rfl hn2
theorem update_sound (F:FixOk f) {y:Str} {yp apos cpos pos:Pos} {e:Expr} {i:Nat} {a:PE} {k:Cl} (hd:(y==("__debug__" : Str))=false) (hm:(y,i)∈f.c.names) (hi:i∈f.c.mv) (hev:EvOK f cf e a k) (hk:k.inner=true) (hse:starred e=false)
  (hline:(apos.endLine==cpos.line)=true) (hint:interactive f.c.env=false):ExOK f cf fr (.Expr (.Call (.Attribute (.Name y yp) "update" apos) [e] [] cpos) pos) (.update i a):=by
 intro own ρ s x hn
 dsimp only [xE6] at hn ⊢
 obtain ⟨d0,hd0,e0⟩:=slot_ok hn
 rw [e0] at hn ⊢
 have hst:starEach [e] f.c.env=[(false,eval e f.c.env)]:=starEach_plain hse
 refine wpAny_Expr ?_ hint rfl
 refine wpAny_Call_method (T := "dict") (id := "dict.update") rfl ?_ hline PySem.F.plainAttrs_dict PySem.F.slot_dict_update PySem.F.type_dict_update ?_
 ·rw [hst];rfl
 refine wpAny_Name (x.load' F.ok hm hd0 fun v hv hr=>?_) (by simpa using hd)
 rw [hst]
 have hl:∃ l,d0=.dict l:=by
  cases d0 with
  | dict l=>exact ⟨l,rfl⟩
  | _=>exact absurd rfl hn
 obtain ⟨l,rfl⟩:=hl
 dsimp only at hn ⊢
 obtain ⟨ad,vs,rfl,hown,ha1,hlen,hq,hrkv⟩:=own_dict hi hr
 obtain ⟨o0,es0,n0,ho0,hd0',hc0,hdn0⟩:=dictRep_obj hq
 refine ⟨⟨_,ho0,hc0⟩,fun a' q=>by injection q with q;subst q;exact ⟨_,ho0,hdn0⟩,?_⟩
 refine method1_meetsIn PySem.F.slot_dict_update PySem.F.entry_dict_update (hev.useX F x hn fun d v s₁ e1 e2 hn1 g1 x1 r1=>?_)
 rw [e2]
 obtain ⟨ad',vs',hq0,hown',ha1',hlen',hq',hrkv'⟩:=own_dict hi (VRd.grow F.ok x g1 hr)
 injection hq0 with hq0;subst hq0
 cases d with
 | dict m=>
  dsimp only at hn1 ⊢
  split at hn1
  ·rename_i hc
   rw [if_pos hc]
   simp only [Bool.and_eq_true,decide_eq_true_eq,Bool.or_eq_true,Bool.not_eq_true'] at hc
   obtain ⟨⟨⟨hf1,hf2⟩,hl1⟩,hh⟩:=hc
   obtain ⟨am,vm,rfl,hPm,ham1,hlm,hqm,hrm⟩:=r1.rd x hk
   obtain ⟨xs,hdo,e5,e6,htk⟩:=hq'.tup hf1
   obtain ⟨more,hdm,e7,e8,htm⟩:=hqm.tup hf2
   rw [e6] at hrkv'
   rw [e8] at hrm
   have hne:ad≠am:=fun e=>by rw [e] at hown;rw [hPm.2] at hown;cases hown
   obtain ⟨q1,q2⟩:=dupd_tup e7 hrm e5 hrkv'
   obtain ⟨o1,es1,n1,ho1,hd1',hc1,_⟩:=dictRep_obj hq'
   have hxl:xs.length=l.length:=by have:=congrArg List.length e5;simp only [List.length_map] at this;exact o338 this
   have hml:more.length=m.length:=by have:=congrArg List.length e7;simp only [List.length_map] at this;exact o338 this
   refine ⟨⟨_,ho1,hc1⟩,PySem.F.args_dict_update_2 _ _,_,meets_update_heap ad am hne (sysNe ham1),tupleKind_room_in1 (by have:=F.ok.units;exact o291 this),xs,more,hdo,hdm,fun hx=>?_,?_,fun h' hdo' hsb=>?_⟩
   ·have hle:l=[]:=by subst hx;exact List.length_eq_zero_iff.mp hxl.symm
    rcases hh with h1 | h1
    ·rw [hle] at h1;cases h1
    ·have:(m.map fun p=>khash p.1)=more.map fun x=>(tk).hash x.1:=by
      have:=congrArg (List.map khash) e7
      rw [List.map_map,List.map_map] at this
      exact this
     rw [<-this];exact h1
   ·unfold lim at hl1;rw [hxl,hml];have:sizeLine ≥ 16777216:=by decide
    exact o340 hl1 this
   ·have k':∀ b o,b≠ad->s₁.heap.get? b=some o->h'.get? b=some o:=fun b o hb ho=>(hsb.2 b hb).trans ho
    have kpF:Kp (Fz f.c own) s₁.heap h':=mut_kp ho1 (.inr ⟨_,_,hd1'⟩) k' fun h=>by rw [h.2] at hown;cases hown
    obtain ⟨o2,es2,ep2,ho2,_⟩:=id hdo'
    obtain ⟨h1,h2,h3⟩:=x1.mutate F.ok hi hm hown (hv.grow g1.h) ho1 (.inr ⟨_,_,hd1'⟩) (tk:=s₁.toks) k' ⟨o2,ho2⟩ (d':=.dict (dupd l m)) ⟨ad,_,rfl,hown,ha1,by have:=dupd_len l m;exact o341 hl1 this,.inr ⟨_,hdo',q1,rfl,(htk.merged htm).but ho1 hd1' hsb⟩,RdKV.to kpF _ q2⟩
    exact ⟨_,own,rfl,h1,(Evo.grow g1).trans h2 g1.in_,fun b o hb=>let ⟨o1,ho1⟩:=g1.in_ b o hb;h3 b o1 ho1⟩
  ·exact absurd rfl hn1
 | _=>exact absurd rfl hn1
end
end Mine.Internal
end
section
namespace Mine.Internal
open PySem PySem.Spec PyProof.Rows
section
variable {M:Model} {A:Around} {E:Value->Shared->Prop} {s:Shared}
theorem note_first {base:Heap} {env:Env} {outer:List Env} {L e:Addr} {oe:Obj} {vs:Array Value} {Q:Unit->Shared->Prop}
  (hfr:A.frames=some (env::outer)) (hl:s.heap.FunFrames base (env::outer)) (hf:env.frame=some L)
  (he:s.heap.get? e=some oe) (hkb:base.StaysIn s.heap) (hen:base.get? e=none) (hd:oe.data=.fields vs) (h1:vs[1]?=some .none)
  (h:∀ h',Heap.Left base (env::outer) e oe.cls s.heap h'->Q () { s with heap:=h' }):wpAny M A (noteFrame (.ref e) env) (fun _ s'=>wpAny M A (setFlight (.ref e) none) Q E s') E s:=by
 unfold noteFrame
 simp only [hf]
 refine wpAny_bind (wpAny_field he hd h1 ?_)
 rw [if_neg (by decide)]
 exact wpAny_newEntry hfr hl hf he hkb hen hd (Array.getElem?_eq_some_iff.mp h1).1 h
theorem note_next {base:Heap} {env:Env} {outer:List Env} {L e:Addr} {cls:Value} {Q:Unit->Shared->Prop}
  (hfr:A.frames=some (env::outer)) (hl:s.heap.FunFrames base (env::outer)) (hf:env.frame=some L) (ht:s.heap.Traced base e cls) (hkb:base.StaysIn s.heap) (hen:base.get? e=none)
  (h:∀ h',Heap.Left base (env::outer) e cls s.heap h'->Q () { s with heap:=h' }):wpAny M A (noteFrame (.ref e) env) (fun _ s'=>wpAny M A (setFlight (.ref e) none) Q E s') E s:=by
 obtain ⟨oe,vs,T,oT,ts,he,hcls,hd,h1,hnT,hTe,hT,hdT,h3⟩:=ht
 subst hcls
 unfold noteFrame
 simp only [hf]
 refine wpAny_bind (wpAny_field he hd h1 ?_)
 rw [if_pos (show (Value.ref T != Value.none)=true from by simp)]
 refine wpAny_bind (wpAny_field hT hdT h3 ?_)
 rw [if_neg (show ¬ ((Value.none==rawInt L)=true) from by simp [rawInt])]
 refine wpAny_bind (wpAny_setField hT hdT (Array.getElem?_eq_some_iff.mp h3).1 ?_)
 have other:∀ b,b≠T->(s.heap.update T (Obj.mapFields (·.setIfInBounds 3 Value.none))).get? b=s.heap.get? b:=fun b hb=>Heap.get?_update_other _ _ (Ne.symm hb)
 have noRecord:∀ b o,s.heap.get? b=some o->(∀ vs,o.data≠.fields vs)->b≠T:=fun b o hb hnf q=>by
  rw [q,hT] at hb;injection hb with hb;subst hb;exact hnf ts hdT
 refine wpAny_newEntry hfr (hl.of_keeps fun b o hb hnf=>⟨o,(other b (noRecord b o hb hnf)).trans hb,rfl⟩) hf ((other e (Ne.symm hTe)).trans he)
  (fun b o hbo=>(other b fun q=>by rw [q,hnT] at hbo;cases hbo).trans (hkb b o hbo)) hen hd (Array.getElem?_eq_some_iff.mp h1).1
  fun h' ⟨x1,x2,x3,x4⟩=>h h' ⟨x1,x2,x3,fun b o hb hnf=>x4 b o ((other b (noRecord b o hb hnf)).trans hb) hnf⟩
end
section
variable {f:Fix} {cf:Nat->List PV->Res PV} {own:Addr->Option Nat} {ρ:Slots} {s s₁:Shared} {fr:Bool}
theorem funFrames_of {h base:Heap}:∀ {l:List Env},(∀ e∈l,e.scope.kind≠.module/\∃ L,e.frame=some L)->(∀ b∈l.filterMap (·.frame),∃ m,h.Ns b m)->(∀ b∈l.filterMap (·.frame),base.get? b=none)->h.FunFrames base l
 | [],_,_,_=>trivial
 | e::l,h1,h2,h3=>by
  obtain ⟨hk,L,hL⟩:=h1 e List.mem_cons_self
  have hm:L∈(e::l).filterMap (·.frame):=by rw [List.filterMap_cons,hL];exact List.mem_cons_self
  have ht:∀ b∈l.filterMap (·.frame),b∈(e::l).filterMap (·.frame):=fun b hb=>by rw [List.filterMap_cons,hL];exact List.mem_cons_of_mem _ hb
  obtain ⟨m,hn⟩:=h2 L hm
  exact Heap.FunFrames.cons hk hL hn (h3 L hm) (funFrames_of (fun e' he'=>h1 e' (List.mem_cons_of_mem _ he')) (fun b hb=>h2 b (ht b hb)) fun b hb=>h3 b (ht b hb))
structure UpX (f:Fix) (C a:Addr) (s':Shared):Prop where
 g:GrowH (frs f.c.A) f.c.h0 s'.heap
 hf:∀ b∈frs f.c.A,∃ m,s'.heap.Ns b m
 hn:f.c.h0.get? a=none
 ht:s'.heap.Traced f.c.h0 a (.ref C)\/∃ oe vs,s'.heap.get? a=some oe/\oe.cls=.ref C/\oe.data=.fields vs/\vs[1]?=some .none
structure Gone (f:Fix) (C a:Addr) (h':Heap):Prop where
 g:GrowH (frs f.c.A) f.c.h0 h'
 hf:∀ b∈frs f.c.A,∃ m,h'.Ns b m
 hn:f.c.h0.get? a=none
 ht:h'.Traced f.c.h0 a (.ref C)
theorem Traced.back {l:List Addr} {h₀ h₁ h:Heap} {a:Addr} {c:Value} (g:GrowH l h₀ h₁) (x:h.Traced h₁ a c):h.Traced h₀ a c:=by
 obtain ⟨oe,vs,T,oT,ts,h1,h2,h3,h4,h5,r⟩:=x
 exact ⟨oe,vs,T,oT,ts,h1,h2,h3,h4,g.none h5,r⟩
theorem UpX.note (F:FixOk f) {outer:List Env} {L:Addr} (hfr:f.c.A.frames=some (f.c.env::outer)) (hf:f.c.env.frame=some L) {C a:Addr} {s':Shared} (u:UpX f C a s') {Q:Unit->Shared->Prop} {E:Value->Shared->Prop}
  (hQ:∀ h',Gone f C a h'->Q () { s' with heap:=h' }):
  wpAny (model prog w) f.c.A (noteFrame (.ref a) f.c.env) (fun _ s₂=>wpAny (model prog w) f.c.A (setFlight (.ref a) none) Q E s₂) E s':=by
 obtain ⟨hg,hns,hna,hk⟩:=u
 have hfrs:frs f.c.A=(f.c.env::outer).filterMap (·.frame):=by unfold frs;rw [hfr];rfl
 obtain ⟨l,hl,hl2⟩:=F.ok.frames
 rw [hfr] at hl;injection hl with hl;subst hl
 let base:=W.hideAll f.c.h0 (frs f.c.A)
 have hbn:∀ b∈(f.c.env::outer).filterMap (·.frame),base.get? b=none:=fun b hb=>W.hideAll_none _ (hfrs ▸ hb)
 have hff:s'.heap.FunFrames base (f.c.env::outer):=funFrames_of hl2 (fun b hb=>hns b (hfrs ▸ hb)) hbn
 have hst:base.StaysIn s'.heap:=fun b o hb=>by
  have hb0:=W.of_hideAll _ hb
  refine (hg b o hb0).1 fun hm=>?_
  rw [W.hideAll_none _ hm] at hb;cases hb
 have hen:base.get? a=none:=by
  cases q:base.get? a with
  | none=>rfl
  | some o=>rw [W.of_hideAll _ q] at hna;cases hna
 have done:∀ h',Heap.Left base (f.c.env::outer) a (.ref C) s'.heap h'->Q () { s' with heap:=h' }:=fun h' ⟨k1,k2,k3,k4⟩=>by
  refine hQ h' ⟨fun b o hb=>?_,fun b hb=>?_,hna,?_⟩
  ·by_cases hm:b∈frs f.c.A
   ·refine ⟨fun hn=>absurd hm hn,?_⟩
    obtain ⟨sl,h2⟩:=(hg b o hb).2
    obtain ⟨m,o',es,ep,ho',hd',_⟩:=hns b hm
    rw [h2] at ho';cases ho'
    obtain ⟨sl',h3⟩:=k4 b _ h2 fun vs q=>by rw [hd'] at q;cases q
    exact ⟨sl',h3⟩
   ·have:=k1 b o (W.hideAll_get _ hb hm)
    exact ⟨fun _=>this,o.slots,this⟩
  ·obtain ⟨m,o',es,ep,ho',hd',r⟩:=hns b hb
   obtain ⟨sl',h3⟩:=k4 b _ ho' fun vs q=>by rw [hd'] at q;cases q
   exact ⟨m,_,es,ep,h3,hd',r⟩
  ·obtain ⟨oe,vs,T,oT,ts,q1,q2,q3,q4,q5,q6,q7,q8,q9⟩:=k3
   refine ⟨oe,vs,T,oT,ts,q1,q2,q3,q4,?_,q6,q7,q8,q9⟩
   cases q:f.c.h0.get? T with
   | none=>rfl
   | some o=>
    by_cases hm:T∈frs f.c.A
    ·obtain ⟨_,o',ho',hnf⟩:=k2.mem (b:=T) (hfrs ▸ hm)
     rw [q7] at ho';cases ho';exact absurd q8 (hnf _)
    ·have:=W.hideAll_get _ q hm
     rw [show (W.hideAll f.c.h0 (frs f.c.A)).get? T=none from q5] at this;cases this
 rcases hk with ht | ⟨oe,vs,he,hc,hd,h1⟩
 ·refine note_next hfr hff hf (base:=base) ?_ hst hen done
  obtain ⟨oe,vs,T,oT,ts,q1,q2,q3,q4,q5,r⟩:=ht
  refine ⟨oe,vs,T,oT,ts,q1,q2,q3,q4,?_,r⟩
  cases q:base.get? T with
  | none=>rfl
  | some o=>rw [W.of_hideAll _ q] at q5;cases q5
 ·exact note_first hfr hff hf he hst hen hd h1 fun h' k=>done h' (hc ▸ k)
theorem UpX.leave (F:FixOk f) {outer:List Env} {L:Addr} (hfr:f.c.A.frames=some (f.c.env::outer)) (hf:f.c.env.frame=some L) {C a:Addr} {s':Shared} (u:UpX f C a s') {Q:Unit->Shared->Prop} {E:Value->Shared->Prop}
  (hQ:∀ h',Gone f C a h'->Q () { s' with heap:=h' }):
  wpAny (model prog w) f.c.A (leaving f.c.env (.ref a)) Q E s':=by
 unfold leaving
 exact wpAny_bind (u.note F hfr hf hQ)
structure FrK (f:Fix):Prop where
 frames:∃ outer,f.c.A.frames=some (f.c.env::outer)
 frame:f.c.env.frame=some f.c.env.locals
theorem ldG {A:Around} (F:FixOk f) (hB:∀ b o,f.B.get? b=some o->s.heap.get? b=some o) {y:Str} {mg:Str->Option Value} {v:Value} {Q E:Value->Shared->Prop} (hg:f.t.glob y=true) (hm:f.B.Ns mainGlobals mg) (hv:mg y=some v) (h:Q v s):
  wpAny (model prog w) A (loadName f.c.env y) Q E s:=by
 have hk:f.c.env.kindOf y=some .globalImplicit:=by
  show f.c.env.scope.names.lookup y=_
  rw [F.scope];exact eq_of_beq hg
 rw [loadName_read F.ok.kind hk]
 exact Calls.loadGlobal_global (by rw [F.gl];exact hm.keeps hB) hv h
theorem ldB {A:Around} (F:FixOk f) (hB:∀ b o,f.B.get? b=some o->s.heap.get? b=some o) {y:Str} {v:Value} {Q E:Value->Shared->Prop} (hg:f.t.glob y=true) (hn:f.t.G.lookup y=none) (hb:(y,v)∈biTable) (h:Q v s):
  wpAny (model prog w) A (loadName f.c.env y) Q E s:=by
 obtain ⟨mg,h1,_,h2⟩:=F.gnd.g
 obtain ⟨mb,h3,h4⟩:=F.gnd.b
 have hk:f.c.env.kindOf y=some .globalImplicit:=by
  show f.c.env.scope.names.lookup y=_
  rw [F.scope];exact eq_of_beq hg
 rw [loadName_read F.ok.kind hk]
 exact Calls.loadGlobal_builtin (by rw [F.gl];exact h1.keeps hB) (h2 y v hb hn) (by rw [F.bl];exact h3.keeps hB) (h4 y v hb) h
theorem raise_sound (F:FixOk f) {x:Str} {xp cpos pos mp:Pos} {m:Str} {mk:Nat} (hg:f.t.glob x=true) (hx:x=("TooMany" : Str)) (st:St f.c own ρ s) {Q:Flow->Shared->Prop}:
  wpAny (model prog w) f.c.A (exec (.Raise (some (.Call (.Name x xp) [.Constant (.str m) mk mp] [] cpos)) none pos) f.c.env) Q (fun v s'=>∃ C D a h' tk,Exc2 f.B C D/\v=.ref a/\s'=up s h' tk/\UpX f C a s') s:=by
 subst hx
 obtain ⟨C,D,ex⟩:=F.gnd.x
 obtain ⟨bm,newId,Bn,initId,mg,hns,_,O,FB⟩:=ex.own
 obtain ⟨tl,N,nm,q,bs,hdct,sn,sub,ab,col,dd,k0,k1,k2,k3,k5,mN,hC,hN,hni,T⟩:=O.own.obj
 have hk:=st.baseB F
 refine wpAny_Raise_call_subT (C:=C) (nm:=nm) (q:=q) (N:=N) (bs:=bs) (bm:=tl) (hdct:=hdct) (sn:=sn) (sub:=sub) (ab:=ab) (col:=col) (dd:=dd) (k0:=k0) (k1:=k1) (k2:=k2) (k3:=k3) (k5:=k5)
  FB (mN:=mN) (T.hasType FB.hasBase) F.ok.handled rfl hni ?_
 refine wpAny_Name (ldG F hk hg hns O.bound ⟨rfl,?_⟩) (by decide +kernel)
 refine Calls.evalArgs_plain (wpAny_items_cons (wpAny_Constant_str (wpAny_items_nil ⟨rfl,by show 1<=sizeLine;decide,hk _ _ hC,hN.keeps hk,T.keeps hk,fun h' e hm=>?_⟩)) rfl)
 refine ⟨C,D,e,h',_,ex,rfl,rfl,st.base.trans (.of_keeps hm.keeps),fun b hb=>?_,st.newBase hm.new,.inr ?_⟩
 ·obtain ⟨_,m',hm'⟩:=st.fr b hb
  exact ⟨m',hm'.keeps hm.keeps⟩
 ·obtain ⟨t,h1,_⟩:=hm.there
  exact ⟨_,_,h1,rfl,rfl,rfl⟩
theorem callX_sound (F:FixOk f) (C:CF f.B f.fa f.t.G cf f.D) {g:Str} {gp pos:Pos} {es:List Expr} {l:List (PE×Cl)} {i ar:Nat} {fr':Bool} (hg:f.t.glob g=true) (hl:f.t.G.lookup g=some (.fn i ar fr')) (hr:g=("reckoned" : Str))
  (h:EachOK f cf es l) (hs:es.any starred=false) (hne:es≠[]) (hlen:l.length=ar) (hk:(l.map (·.2)).all Cl.inner=true) (x:St f.c own ρ s) (hn:((evs cf ρ (l.map (·.1))).bind fun xs=>cf (i+1000) xs)≠.stuck) {Q:Value->Shared->Prop}:
  wpAny (model prog w) f.c.A (eval (.Call (.Name g gp) es [] pos) f.c.env) Q (fun v s'=>(∃ ds d,evs cf ρ (l.map (·.1))=.ok ds/\cf (i+1000) ds=.ok d)/\∃ C D a h' tk,Exc2 f.B C D/\v=.ref a/\s'=up s h' tk/\UpX f C a s') s:=by
 subst hr
 have hn1:evs cf ρ (l.map (·.1))≠.stuck:=fun q=>hn (by rw [q];rfl)
 refine wpAny_Call_NameR (wpAny_Name (loadGl F x hg hl fun v hv=>?_) (by decide +kernel))
 rw [show v=.ref (f.fa i) from hv]
 obtain ⟨o,fd,ho,hfd⟩:=F.gnd.fn _ i ar fr' hl
 refine Calls.callWith_function (o:=o) (fd:=fd) (evalArgs_list hs hne ?_)
 refine wpAny_mono (evs_sound F h hs x hn1) (fun vs s₁ q=>?_) fun _ _ q=>q.elim
 obtain ⟨ds,e1,g1,r⟩:=q
 have x1:=x.grow F.ok g1
 refine ⟨⟨x1.baseB F _ _ ho,hfd⟩,?_⟩
 rw [e1,bindK] at hn
 have hdl:ds.length=ar:=by
  have:∀ {ks:List Cl} {ds:List PV} {vs:List Value},RdCs f.c own s.heap s₁.heap ks ds vs->ds.length=ks.length:=by
   intro ks
   induction ks with
   | nil=>intro ds vs r;rw [r.1];rfl
   | cons k ks ih=>intro ds vs r;obtain ⟨d,ds',v,vs',e1,e2,a,b⟩:=r;subst e1;simp [ih b]
  rw [this r,List.length_map,hlen]
 refine wpAny_call (codeAny_mono (C.x f.c.A s₁ i ar fr' ds vs (Fz f.c own) hl hdl (x1.here F) (fun a ha hf=>fz_dum hf (x1.fr a ha).1) (r.rds x hk) hn) fun res s₂ z=>?_)
 cases res with
 | ok fl=>exact z.elim
 | error x'=>
  obtain ⟨C',D',a,h2,t2,ex,rfl,rfl,g2,hna,ht⟩:=z
  obtain ⟨h1,t1,rfl,_⟩:=id g1
  refine ⟨⟨ds,?_⟩,C',D',a,h2,t2,ex,rfl,rfl,x1.base.trans g2,fun b hb=>let ⟨_,m,hm⟩:=x1.fr b hb;⟨m,g2.ns hm⟩,x1.newBase hna,.inl (Traced.back x1.base ht)⟩
  cases q:cf (i+1000) ds with
  | stuck=>exact absurd q hn
  | ok d=>exact ⟨d,e1,rfl⟩
theorem tryR_sound (F:FixOk f) (FK:FrK f) (C:CF f.B f.fa f.t.G cf f.D) {g x n y d u:Str} {gp cp ep xp rp hp pos yp dp up ip np:Pos} {es:List Expr} {l:List (PE×Cl)} {i ar:Nat} {fr':Bool} (hg:f.t.glob g=true) (hl:f.t.G.lookup g=some (.fn i ar fr')) (hr:g=("reckoned" : Str))
  (h:EachOK f cf es l) (hs:es.any starred=false) (hne:es≠[]) (hlen:l.length=ar) (hk:(l.map (·.2)).all Cl.inner=true) (hint:interactive f.c.env=false)
  (hx:x=("TooMany" : Str)) (hgx:f.t.glob x=true) (hn:f.c.env.kindOf n=some .local) (hnd:(n==("__debug__" : Str))=false) (hy:f.t.bi y "isinstance" = true) (hu:u=n) (hd:d=("NoDrawing" : Str)) (hgd:f.t.glob d=true):
  ExOK f cf fr (.Try [.Expr (.Call (.Name g gp) es [] cp) ep] [.ExceptHandler (some (.Name x xp)) (some n) [.Return (some (.UnaryOp .Not (.Call (.Name y yp) [.Name u up,.Name d dp] [] ip) np)) rp] hp] [] [] pos) (.tryR i (l.map (·.1))):=by
 intro own ρ s st hns
 rw [xE13] at hns ⊢
 have hn0:((evs cf ρ (l.map (·.1))).bind fun xs=>cf (i+1000) xs)≠.stuck:=fun q=>hns (by
  cases q1:evs cf ρ (l.map (·.1)) with
  | stuck=>rfl
  | ok ds=>rw [q1,bindK] at q;rw [bindK,q];rfl)
 obtain ⟨outer,hfr⟩:=FK.frames
 refine wpAny_Try_except (wpAny_execs_cons (wpAny_Expr (wpAny_mono (callX_sound F C hg hl hr h hs hne hlen hk st hn0 (Q:=fun _ _=>False)) (fun _ _ q=>q.elim) fun v s₁ q=>?_) hint rfl))
 obtain ⟨⟨ds,dd,q1,q2⟩,C',D,a,h1,t1,ex,rfl,rfl,u⟩:=q
 refine u.note F hfr FK.frame fun h2 gone=>?_
 obtain ⟨bm,newId,Bn,initId,mg,hmg,hD,O,FB⟩:=ex.own
 obtain ⟨K,hK,hKo⟩:=ex.isn
 have hB:∀ b o,f.B.get? b=some o->h2.get? b=some o:=fun b o hb=>(gone.g b o (F.base b o hb).2).1 (F.base b o hb).1
 obtain ⟨oe,vs,T,oT,ts,p1,p2,p3,p4,p5,p6,p7,p8,p9⟩:=gone.ht
 subst hx hd hu
 have hloc:f.c.env.locals∈frs f.c.A:=by
  unfold frs
  rw [hfr]
  show f.c.env.locals∈(f.c.env::outer).filterMap (·.frame)
  rw [List.filterMap_cons,FK.frame];exact List.mem_cons_self
 obtain ⟨rfl,hy⟩:=bi_eq hy
 simp only [TC.bi,Bool.and_eq_true,Option.isNone_iff_eq_none] at hy
 have hp:(f.c.env.scope.kind==.class||(f.c.env.scope.kind==.module&&f.c.env.locals != f.c.env.globals))=false:=by rw [F.ok.kind];rfl
 refine handleBy_own_as (x := "TooMany") (newId:=newId) (C:=C') (mg:=mg) FB.hasBase (wpAny_Name (ldG F hB hgx hmg O.bound ⟨rfl,O.keeps hB,⟨oe,p1,p2⟩,?_⟩) (by decide +kernel))
 refine wpAny_setFlight_none p1 p3 p4 p7 p8 (Array.getElem?_eq_some_iff.mp p9).1 ?_
 have oth:∀ b,b≠T->(h2.update T (Obj.mapFields (·.setIfInBounds 3 Value.none))).get? b=h2.get? b:=fun b hb=>Heap.get?_update_other _ _ (Ne.symm hb)
 obtain ⟨m,ol,es0,n0,hol,hdl,rl⟩:=gone.hf _ hloc
 have hlT:f.c.env.locals≠T:=fun e=>by rw [e,p7] at hol;cases hol;rw [p8] at hdl;cases hdl
 have hmL:(h2.update T (Obj.mapFields (·.setIfInBounds 3 Value.none))).Ns f.c.env.locals m:=⟨ol,es0,n0,(oth _ hlT).trans hol,hdl,rl⟩
 have hol3:=(oth _ hlT).trans hol
 have hoe3:=(oth _ (Ne.symm p6)).trans p1
 have hB3:∀ b o,f.B.get? b=some o->(h2.update T (Obj.mapFields (·.setIfInBounds 3 Value.none))).get? b=some o:=fun b o hb=>by
  refine (oth b fun e=>?_).trans (hB b o hb)
  have:=(F.base b o hb).2
  rw [e,p5] at this;cases this
 have hg3:GrowH (frs f.c.A) f.c.h0 (h2.update T (Obj.mapFields (·.setIfInBounds 3 Value.none))):=fun b o hb=>by
  have hne:b≠T:=fun e=>by rw [e,p5] at hb;cases hb
  obtain ⟨h3,sl,h4⟩:=gone.g b o hb
  exact ⟨fun hf'=>(oth b hne).trans (h3 hf'),sl,(oth b hne).trans h4⟩
 generalize h2.update T (Obj.mapFields (·.setIfInBounds 3 Value.none))=h3 at *
 have hal:a≠f.c.env.locals:=fun e=>by rw [e,hol3] at hoe3;cases hoe3;rw [hdl] at p3;cases p3
 refine wpAny_storeName_local hn hmL (fun h4 hn4 hs4=>?_) hp
 have hB4:∀ b o,f.B.get? b=some o->h4.get? b=some o:=fun b o hb=>(hs4.2 b fun e=>by
  have:=(F.base b o hb).2
  rw [e,st.locNew] at this;cases this).trans (hB3 b o hb)
 refine wpAny_execs_cons (wpAny_Return_some (wpAny_UnaryOp ?_))
 refine wpAny_Call_NameR (wpAny_Name (ldB F hB4 hy.1.1 hy.1.2 (v:=.builtin "isinstance") (by decide +kernel) ?_) (by decide +kernel))
 refine Calls.callWith_builtin (backTo_plain rfl) (evalArgs_list rfl (by simp) ?_)
 refine wpAny_items_cons (wpAny_Name (wpAny_loadName_local F.ok.kind hn hn4 (if_pos rfl) ?_) (by simpa using hnd)) (starEach_plain rfl)
 refine wpAny_items_cons (wpAny_Name (ldG F hB4 hgd hmg hD (wpAny_items_nil ?_)) (by decide +kernel)) (starEach_plain rfl)
 refine isn_exc (ox:=oe) ((hs4.2 a hal).trans hoe3) p2 (hK.keeps hB4) hKo ?_
 refine not_value (wpAny_truthy_bool ?_)
 refine wpAny_nameGoes hn hn4 hp fun h5 m5 hn5 hs5=>?_
 rw [q1,bindK,q2,bindK]
 refine ⟨.bool true,rfl,⟨_,_,rfl⟩,fun b o hb=>?_,?_⟩
 ·have hne:b≠f.c.env.locals:=fun e=>by rw [e,st.locNew] at hb;cases hb
  obtain ⟨k1,sl,k2⟩:=hg3 b o hb
  have e1:h5.get? b=h3.get? b:=(hs5.2 b hne).trans (hs4.2 b hne)
  exact ⟨fun hf'=>e1.trans (k1 hf'),sl,e1.trans k2⟩
 ·unfold RetRd
  split<;>rfl
theorem St.give {c:Cx} (ok:CxOk c) (x:St c own ρ s) {j:Nat} (hj:j∈c.mv):St c (fun b=>if own b=some j then none else own b) (ρ.set j none) s where
 base:=x.base
 fr:=fun a ha=>by
  obtain ⟨h1,h2⟩:=x.fr a ha
  exact ⟨(if_neg fun e=>by rw [h1] at e;cases e;exact ok.dumNot hj).trans h1,h2⟩
 loc:=by
  obtain ⟨h1,h2⟩:=x.loc
  exact ⟨(if_neg fun e=>by rw [h1] at e;cases e;exact ok.dumNot hj).trans h1,h2⟩
 locNew:=x.locNew
 cell:=x.cell
 cellNew:=x.cellNew
 ownIn:=fun a h=>x.ownIn a fun e=>h (by rw [e];rfl)
 ownNew:=fun a i h hi=>by
  change (if own a=some j then none else own a)=some i at h
  split at h
  ·cases h
  ·exact x.ownNew a i h hi
 vars:=fun y i d hm hd=>by
  by_cases e:j=i
  ·subst e
   rw [List.getElem?_set_self'] at hd
   cases q:ρ[j]? with
   | none=>rw [q] at hd;cases hd
   | some _=>rw [q] at hd;cases hd
  ·rw [List.getElem?_set_ne e] at hd
   obtain ⟨v,hv,hr⟩:=x.vars y i d hm hd
   refine ⟨v,hv,?_⟩
   unfold VRd at hr ⊢
   have non:∀ a,Fz c own a->Fz c (fun b=>if own b=some j then none else own b) a:=fun a p=>⟨p.1,by show (if own a=some j then none else own a)=none;rw [p.2];rfl⟩
   split
   ·rename_i hi
    rw [if_pos hi] at hr
    exact RdO.imp (fun a _ _ _ p=>(if_neg fun q=>e (by rw [p] at q;cases q;rfl)).trans p) (fun a _ _ _ p=>non a p) hr
   ·rename_i hi
    rw [if_neg hi] at hr
    exact Rd.imp (fun a _ _ _ p=>non a p) d hr
theorem move_sound (F:FixOk f) {y z:Str} {py pz pos:Pos} {i j:Nat} (hy:(y,i)∈f.c.names) (hz:(z,j)∈f.c.names) (hi:i∉f.c.mv) (hj:j∈f.c.mv) (hd:(z==("__debug__" : Str))=false):ExOK f cf fr (.Assign [.Name y py] (.Name z pz) pos) (.move i j):=by
 intro own ρ s x hn
 rw [xE2] at hn ⊢
 obtain ⟨d,hd0,e0⟩:=slot_ok hn
 rw [e0]
 refine wpAny_Assign_Name (wpAny_Name (x.load F.ok hz hd0 fun v hr=>?_) hd) rfl
 have x':=x.give F.ok hj
 have hv:VRd s.heap f.c (fun b=>if own b=some j then none else own b) i d v:=by
  unfold VRd at hr ⊢
  rw [if_pos hj] at hr
  rw [if_neg hi]
  exact Rd.imp (fun a _ _ _ p=>p.elim (fun p=>⟨p.1,by show (if own a=some j then none else own a)=none;rw [p.2];rfl⟩) fun p=>⟨.inr (x.ownNew a j p hj),if_pos p⟩) d (RdO.rd hr)
 refine x'.store (N:=Names f.c) (fun b h=>h.names) F.ok hy hv fun s' x2 st=>⟨_,_,rfl,x2,?_,st.in_ x' x2 fun _ h=>h⟩
 exact Evo.trans ⟨⟨s.heap,s.toks,rfl⟩,fun b o _ h=>by show (if own b=some j then none else own b)=none;rw [h];rfl,fun _ _ h _ _ _ _=>h⟩ (Evo.stored x' (fun _ h=>h) st) fun b o h=>⟨o,h⟩
end
end Mine.Internal
end
section
set_option backward.eqns.nonrecursive false
namespace Mine.Internal
open PySem PySem.Spec PyProof.Rows
theorem notInter {f:Fix} (F:FixOk f):interactive f.c.env=false:=by unfold interactive;rw [F.ok.kind];rfl
theorem swaps_not {value:Expr} {tg:Option Expr} {l:Nat} {env:Env} (h:isComp value=false):swapsWith value tg l env=pure false:=by
 cases value with
 | ListComp _ _ _ _=>cases h
 | SetComp _ _ _ _=>cases h
 | DictComp _ _ _ _ _=>cases h
 | _=>rfl
def SOk (fr:Bool) (t:TC) (st:Stmt) (p:PS):Prop:=∀ cf f,FixOk f->f.t=t->CF f.B f.fa f.t.G cf f.D->FrK f->ExOK f cf fr st p
def SsOk (fr:Bool) (t:TC) (ss:List Stmt) (ps:List PS):Prop:=∀ cf f,FixOk f->f.t=t->CF f.B f.fa f.t.G cf f.D->FrK f->ExsOK f cf fr ss ps
def TgOk (t:TC) (e:Expr) (tg:Tgt):Prop:=∀ f,FixOk f->f.t=t->TgtAt f.c (Names f.c) e tg
theorem slotN {f:Fix} (F:FixOk f) {x:Str} {i:Nat} (h:f.t.slot x=some i):(x,i)∈f.c.names:=by rw [F.names];exact slot_mem h
theorem slotM {f:Fix} (F:FixOk f) {i:Nat} (h:i∈f.t.mv):i∈f.c.mv:=by rw [F.mv];exact h
theorem slotNM {f:Fix} (F:FixOk f) {i:Nat} (h:i∉f.t.mv):i∉f.c.mv:=by rw [F.mv];exact h
section
variable {fr:Bool} {t:TC}
theorem SOk.asg {x:Str} {px pos:Pos} {value:Expr} {i:Nat} {a:PE×Cl} (hs:t.slot x=some i) (ha:Ok t value a.1 a.2) (hk:stOk t i a.2=true) (hc:isComp value=false):SOk fr t (.Assign [.Name x px] value pos) (.assign i a.1):=
 fun _ _ F q C K=>by subst q;exact assign_sound F (slotN F hs) (ha _ _ F rfl C).1 hk (swaps_not hc)
theorem SOk.asgC {x:Str} {px pos cpos:Pos} {elt target iter:Expr} {ifs:List Expr} {scope:Scope} {r:CR} {i:Nat} (hs:t.slot x=some i) (h:CompIs t elt target iter ifs scope r) (hk:stOk t i .fresh=true):SOk fr t (.Assign [.Name x px] (.ListComp elt [⟨target,iter,ifs,0⟩] scope cpos) pos) (.assign i (r.pe t)):=
 fun _ f F q C K=>by
  subst q
  cases hsw:(f.c.env.blockKind==.function&&f.c.env.kindOf x==some .local&&px.line==cpos.line&&!(scope.names.any fun (n,k)=>n==x&&(k==.local||k==.cell))) with
  | false=>exact assign_sound F (slotN F hs) (Ok.comp h _ _ F rfl C).1 hk (congrArg (fun b=>(pure b:Sem Bool)) hsw)
  | true=>
   simp only [Bool.and_eq_true] at hsw
   exact assign_comp_sound F h.kd h.tn (compOk_ok h.ok) h.inr (fun cl c hcl=>(h.e _ (compFix f scope r.xs cl c) (compFix_ok F h.kd (compOk_ok h.ok) hcl) rfl C).1) (fun cl c hcl=>h.c _ (compFix f scope r.xs cl c) (compFix_ok F h.kd (compOk_ok h.ok) hcl) rfl C) (h.i _ _ F rfl C) (slotN F hs) (eq_of_beq hsw.1.1.2)
    (congrArg (fun b=>(pure b:Sem Bool)) (show (f.c.env.blockKind==.function&&f.c.env.kindOf x==some .local&&px.line==cpos.line&&!(scope.names.any fun (n,k)=>n==x&&(k==.local||k==.cell)))=true by simp only [Bool.and_eq_true];exact hsw))
theorem SOk.unp {es:List Expr} {kd:Nat} {tp pos:Pos} {value:Expr} {is:List Nat} {a:PE×Cl} (ht:TgOk t (.Tuple es kd tp) (.many is)) (ha:Ok t value a.1 a.2) (hk:a.2.inner=true) (hc:(isComp value||isTuple value)=false):SOk fr t (.Assign [.Tuple es kd tp] value pos) (.unpack is a.1):=
 fun _ _ F q C K=>by
  rw [Bool.or_eq_false_iff] at hc
  refine unpack_sound F (ht _ F q) (ha _ _ F q C).1 hk (by unfold swapsWithSole;exact swaps_not hc.1) ?_
  cases value with
  | Tuple _ _ _=>cases hc.2
  | _=>rfl
theorem SOk.sti {x:Str} {xp sp pos:Pos} {ix value:Expr} {j:Nat} {a b:PE×Cl} (hd:(x==("__debug__" : Str))=false) (hs:t.slot x=some j) (hm:j∈t.mv) (ha:Ok t value a.1 a.2) (hb:Ok t ix b.1 b.2) (hk:(a.2.inner&&b.2.inner)=true) (hc:isComp value=false):SOk fr t (.Assign [.Subscript (.Name x xp) ix sp] value pos) (.setItem j b.1 a.1):=
 fun _ _ F q C K=>by subst q;exact setItem_sound F hd (slotN F hs) (slotM F hm) (ha _ _ F rfl C).1 (Bool.and_eq_true_iff.1 hk).1 (hb _ _ F rfl C).1 (Bool.and_eq_true_iff.1 hk).2 (swaps_not hc)
noncomputable def methOk (e:Expr) (apos cpos:Pos):Bool:=!starred e&&(apos.endLine==cpos.line)
theorem SOk.app {x m:Str} {xp apos cpos pos:Pos} {e:Expr} {j:Nat} {a:PE×Cl} (hm:m=("append" : Str)) (hd:(x==("__debug__" : Str))=false) (hs:t.slot x=some j) (hv:j∈t.mv) (ha:Ok t e a.1 a.2) (hk:a.2.inner=true) (hc:methOk e apos cpos=true):SOk fr t (.Expr (.Call (.Attribute (.Name x xp) m apos) [e] [] cpos) pos) (.append j a.1):=
 fun _ _ F q C K=>by subst q hm;simp only [methOk,Bool.and_eq_true,Bool.not_eq_true'] at hc;exact append_sound F hd (slotN F hs) (slotM F hv) (ha _ _ F rfl C).1 hk hc.1 hc.2 (notInter F)
theorem SOk.upd {x m:Str} {xp apos cpos pos:Pos} {e:Expr} {j:Nat} {a:PE×Cl} (hm:m=("update" : Str)) (hd:(x==("__debug__" : Str))=false) (hs:t.slot x=some j) (hv:j∈t.mv) (ha:Ok t e a.1 a.2) (hk:a.2.inner=true) (hc:methOk e apos cpos=true):SOk fr t (.Expr (.Call (.Attribute (.Name x xp) m apos) [e] [] cpos) pos) (.update j a.1):=
 fun _ _ F q C K=>by subst q hm;simp only [methOk,Bool.and_eq_true,Bool.not_eq_true'] at hc;exact update_sound F hd (slotN F hs) (slotM F hv) (ha _ _ F rfl C).1 hk hc.1 hc.2 (notInter F)
theorem SOk.ite {test:Expr} {body orelse:List Stmt} {pos:Pos} {c:PE×Cl} {a b:List PS} (hc:Ok t test c.1 c.2) (ha:SsOk fr t body a) (hb:SsOk fr t orelse b):SOk fr t (.If test body orelse pos) (.ite c.1 a b):=fun _ _ F q C K=>ite_stmt_sound F (hc _ _ F q C).2 (ha _ _ F q C K) (hb _ _ F q C K)
theorem SOk.for {target iter:Expr} {body:List Stmt} {pos:Pos} {tg:Tgt} {r:ItK×List PE×Cl} {b:List PS} (ht:TgOk t target tg) (hi:It t (isTuple target) iter r) (hb:SsOk fr t body b) (hc:r.2.2.inner=true):SOk fr t (.For target iter body [] pos) (.for_ tg r.1 r.2.1 b):=
 fun _ _ F q C K=>for_sound F (tup:=isTuple target) (fun h=>by
  cases target with
  | Tuple _ _ _=>exact ⟨_,_,_,rfl⟩
  | _=>cases h) (hb _ _ F q C K) (ht _ F q) (hi _ _ F q C) hc
theorem SOk.whl {test:Expr} {body:List Stmt} {pos:Pos} {c:PE×Cl} {b:List PS} (hc:Ok t test c.1 c.2) (hb:SsOk fr t body b):SOk fr t (.While test body [] pos) (.while_ c.1 b):=fun _ _ F q C K=>while_sound F (hc _ _ F q C).2 (hb _ _ F q C K)
theorem SOk.ret {e:Expr} {pos:Pos} {a:PE×Cl} (ha:Ok t e a.1 a.2) (hk:(!fr||a.2==.fresh||a.2==.own)=true):SOk fr t (.Return (some e) pos) (.ret a.1):=fun _ _ F q C K=>ret_sound F (ha _ _ F q C).1 hk
theorem SOk.mov {x z:Str} {px pz pos:Pos} {i j:Nat} (hs:t.slot x=some i) (hz:t.slot z=some j) (h:i∉t.mv/\j∈t.mv/\(z==("__debug__" : Str))=false):SOk fr t (.Assign [.Name x px] (.Name z pz) pos) (.move i j):=
 fun _ _ F q C K=>by subst q;exact move_sound F (slotN F hs) (slotN F hz) (slotNM F h.1) (slotM F h.2.1) h.2.2
theorem SOk.exp {e:Expr} {pos:Pos} {a:PE×Cl} (ha:Ok t e a.1 a.2) (hc:isComp e=false):SOk fr t (.Expr e pos) (.expr a.1):=fun _ _ F q C K=>by
 intro own ρ s x hn
 rw [xE12] at hn ⊢
 refine wpAny_Expr ((ha _ _ F q C).1.useX F x hn fun d v s₁ e1 e2 hn1 g1 x1 r1=>?_) (notInter F) (swaps_not hc)
 rw [e2]
 cases d with
 | none=>
  have hv:v=.none:=by cases a with | mk a1 a2=>cases a2<;>exact r1
  subst hv
  exact ⟨ρ,own,rfl,x1,Evo.grow g1,g1.in_⟩
 | _=>exact absurd rfl hn1
theorem SOk.hlt {st:Stmt}:SOk fr t st .halt:=fun _ _ _ _ _ _ _ _ _ _ hn=>absurd rfl hn
noncomputable def tryOk (t:TC) (g x n y u d:Str) (es:List Expr):Bool:=
 callable g es&&t.glob g&&g==("reckoned" : Str)&&x==("TooMany" : Str)&&t.glob x&&t.scope.lookup n==some .local&&!(n==("__debug__" : Str))&&t.bi y "isinstance" && u==n&&d==("NoDrawing" : Str)&&t.glob d
theorem SOk.try {g x n y u d:Str} {gp cp ep xp rp hp pos yp dp up ip np:Pos} {es:List Expr} {l:List (PE×Cl)} {i ar:Nat} {fr':Bool} (ht:tryOk t g x n y u d es=true) (hl:t.G.lookup g=some (.fn i ar fr')) (h:Each t es l) (hn:l.length=ar) (hk:(l.map (·.2)).all Cl.inner=true):
  SOk fr t (.Try [.Expr (.Call (.Name g gp) es [] cp) ep] [.ExceptHandler (some (.Name x xp)) (some n) [.Return (some (.UnaryOp .Not (.Call (.Name y yp) [.Name u up,.Name d dp] [] ip) np)) rp] hp] [] [] pos) (.tryR i (l.map (·.1))):=fun _ f F q C K=>by
 subst q
 simp only [tryOk,Bool.and_eq_true,beq_iff_eq,Bool.not_eq_true'] at ht
 obtain ⟨⟨⟨⟨⟨⟨⟨⟨⟨⟨h1,h2⟩,h3⟩,h4⟩,h5⟩,h6⟩,h7⟩,h8⟩,h9⟩,h10⟩,h11⟩:=ht
 exact tryR_sound F K C h2 hl h3 (h _ _ F rfl C) (callable_ok h1).2.1 (callable_ok h1).2.2 hn hk (notInter F) h4 h5 (by show f.c.env.scope.names.lookup n=_;rw [F.scope];exact h6) h7 h8 h9 h10 h11
noncomputable def toNames (t:TC):(es:List Expr)->Option { r:List (Str×Pos)×List Nat // es=r.1.map (fun p=>.Name p.1 p.2)/\∀ f,FixOk f->f.t=t->AllAt f.c (Names f.c) r.1 r.2 }
 | []=>some ⟨([],[]),rfl,fun _ _ _=>trivial⟩
 | .Name x px::es=>match hs:t.slot x with
  | some i=>if hm:i∈t.mv then none else (toNames t es).bind fun r=>some ⟨((x,px)::r.1.1,i::r.1.2),congrArg (.Name x px::·) r.2.1,fun f F q=>⟨⟨slotN F (q ▸ hs),slotNM F (q ▸ hm),fun b hb=>hb.names⟩,r.2.2 f F q⟩⟩
  | none=>none
 | _=>none
theorem TgOk.many {es:List Expr} {ps:List (Str×Pos)} {is:List Nat} {k:Nat} {tp:Pos} (h:es=ps.map (fun p=>.Name p.1 p.2)) (ha:∀ f,FixOk f->f.t=t->AllAt f.c (Names f.c) ps is):TgOk t (.Tuple es k tp) (.many is):=by
 subst h;exact fun f F q=>.many (ha f F q)
noncomputable def toTgt (t:TC) (e:Expr):Option { tg:Tgt // TgOk t e tg }:=match e with
 | .Name x px=>(match hs:t.slot x with
  | some i=>if hm:i∈t.mv then none else some ⟨.one i,fun f F q=>.one (slotN F (q ▸ hs)) (slotNM F (q ▸ hm)) fun b hb=>hb.names⟩
  | none=>none)
 | .Tuple es k tp=>(toNames t es).bind fun r=>some ⟨.many r.1.2,.many r.2.1 r.2.2⟩
 | _=>none
mutual
noncomputable def toPS (fr:Bool):Nat->(t:TC)->(st:Stmt)->Option { p:PS // SOk fr t st p }
 | 0,_,_=>none
 | n+1,t,st=>match st with
  | .Assign [.Name x px] (.ListComp elt [⟨target,iter,ifs,0⟩] scope cpos) pos=>(match hs:t.slot x with
   | some i=>(toComp (toPE n) t elt target iter ifs scope).bind fun r=>if hk:stOk t i .fresh=true then some ⟨_,.asgC hs r.2 hk⟩ else none
   | none=>none)
  | .Assign [.Name x px] (.Name z pz) pos=>(match hs:t.slot x with
   | some i=>(match hz:t.slot z with
    | some j=>if h:i∉t.mv/\j∈t.mv/\(z==("__debug__" : Str))=false then some ⟨_,.mov hs hz h⟩ else (toPE n t (.Name z pz)).bind fun a=>if h:stOk t i a.1.2=true then some ⟨_,.asg hs a.2 h rfl⟩ else none
    | none=>(toPE n t (.Name z pz)).bind fun a=>if h:stOk t i a.1.2=true then some ⟨_,.asg hs a.2 h rfl⟩ else none)
   | none=>none)
  | .Assign [.Name x px] value pos=>(match hs:t.slot x with
   | some i=>(toPE n t value).bind fun a=>if h:stOk t i a.1.2=true/\isComp value=false then some ⟨_,.asg hs a.2 h.1 h.2⟩ else none
   | none=>none)
  | .Assign [.Tuple es k tp] value pos=>(match toTgt t (.Tuple es k tp) with
   | some ⟨.many is,ht⟩=>(toPE n t value).bind fun a=>if h:a.1.2.inner=true/\(isComp value||isTuple value)=false then some ⟨_,.unp ht a.2 h.1 h.2⟩ else none
   | _=>none)
  | .Assign [.Subscript (.Name x xp) i sp] value pos=>(match hs:t.slot x with
   | some j=>(toPE n t value).bind fun a=>(toPE n t i).bind fun b=>if h:(x==("__debug__" : Str))=false/\j∈t.mv/\(a.1.2.inner&&b.1.2.inner)=true/\isComp value=false then some ⟨_,.sti h.1 hs h.2.1 a.2 b.2 h.2.2.1 h.2.2.2⟩ else none
   | none=>none)
  | .Expr (.Call (.Attribute (.Name x xp) m apos) [e] [] cpos) pos=>(match hs:t.slot x with
   | some j=>(toPE n t e).bind fun a=>if h:(x==("__debug__" : Str))=false/\j∈t.mv/\a.1.2.inner=true/\methOk e apos cpos=true then
     (if hm:m=("append" : Str) then some ⟨_,.app hm h.1 hs h.2.1 a.2 h.2.2.1 h.2.2.2⟩ else if hm:m=("update" : Str) then some ⟨_,.upd hm h.1 hs h.2.1 a.2 h.2.2.1 h.2.2.2⟩ else none) else none
   | none=>none)
  | .If test body orelse pos=>(toPE n t test).bind fun c=>(toPSs fr n t body).bind fun a=>(toPSs fr n t orelse).bind fun b=>some ⟨_,.ite c.2 a.2 b.2⟩
  | .For target iter body [] pos=>(toTgt t target).bind fun tg=>(toIt (toPE n t) (isTuple target) iter).bind fun r=>(toPSs fr n t body).bind fun b=>if h:r.1.2.2.inner=true then some ⟨_,.for tg.2 r.2 b.2 h⟩ else none
  | .While test body [] pos=>(toPE n t test).bind fun c=>(toPSs fr n t body).bind fun b=>some ⟨_,.whl c.2 b.2⟩
  | .Expr (.Call (.Name g gp) es [] cp) pos=>(toPE n t (.Call (.Name g gp) es [] cp)).bind fun a=>some ⟨_,.exp a.2 rfl⟩
  | .Raise _ _ _=>some ⟨.halt,.hlt⟩
  | .Try [.Expr (.Call (.Name g gp) es [] cp) ep] [.ExceptHandler (some (.Name x xp)) (some v) [.Return (some (.UnaryOp .Not (.Call (.Name y yp) [.Name u up,.Name d dp] [] ip) np)) rp] hp] [] [] pos=>if ht:tryOk t g x v y u d es=true then (match hl:t.G.lookup g with
   | some (.fn i ar fr')=>(toL (toPE n t) es).bind fun l=>if h:l.1.length=ar/\(l.1.map (·.2)).all Cl.inner=true then some ⟨_,.try ht hl l.2 h.1 h.2⟩ else none
   | _=>none) else none
  | .Return (some e) pos=>(toPE n t e).bind fun a=>if h:(!fr||a.1.2==.fresh||a.1.2==.own)=true then some ⟨_,.ret a.2 h⟩ else none
  | _=>none
noncomputable def toPSs (fr:Bool):Nat->(t:TC)->(ss:List Stmt)->Option { ps:List PS // SsOk fr t ss ps }
 | 0,_,_=>none
 | n+1,t,ss=>match ss with
  | []=>some ⟨[],fun _ _ F _ _ _=>nil_sound F⟩
  | st::r=>(toPS fr n t st).bind fun p=>(toPSs fr n t r).bind fun q=>some ⟨p.1::q.1,fun _ _ F h C K=>cons_sound F (p.2 _ _ F h C K) (q.2 _ _ F h C K)⟩
end
end
noncomputable def fnOf (n:Nat) (os:List (Str×Opt)) (G:List (Str×GE)) (d:Def):Option Fn:=(toPSs (optOf os d.name).fr n (tcOf os G d) d.body).map fun b=>{ slots:=(slotsOf d).length+6,arity:=d.args.args.length,body:=b.1 }
end Mine.Internal
end
section
namespace Mine.Internal
open PySem
theorem callX {P:List Fn} {n f:Nat} {args:List PV} {fn:Fn} (hl:P.length<=1000) (h:P[f]?=some fn):callN P (n+1) (f+1000) args=runR fn (callN P n) args:=by
 show (match P[f+1000]? with | some fn=>runFn fn (callN P n) args | Option.none=>if 1000<=f+1000 then (match P[f+1000-1000]? with | some fn=>runR fn (callN P n) args | Option.none=>.stuck) else .stuck)=_
 rw [List.getElem?_eq_none (Nat.le_trans hl (Nat.le_add_left _ _)),if_pos (Nat.le_add_left _ _),Nat.add_sub_cancel,h]
end Mine.Internal
end
section
namespace Mine.Internal
open PySem PySem.Spec PyProof.Rows
theorem zip_lookup_some:∀ {xs:List Str} {vs:List Value} {x:Str},xs.length=vs.length->x∈xs->((xs.zip vs).lookup x).isNone=false
 | [],_,_,_,h=>by cases h
 | y::ys,[],_,h,_=>by simp at h
 | y::ys,v::vs,x,hl,h=>by
  simp only [List.zip_cons_cons,List.lookup_cons]
  cases q:x==y with
  | true=>rfl
  | false=>
   rcases List.mem_cons.mp h with e | h
   ·rw [e] at q;simp at q
   ·exact zip_lookup_some (by simpa using hl) h
theorem zip_filterMap {xs:List Str} {vs:List Value} (hl:xs.length=vs.length) (hn:xs.Nodup):(xs.filterMap fun n=>((xs.zip vs).lookup n).map (n,·))=xs.zip vs:=by
 have key:∀ (zs:List (Str×Value)),(∀ p∈zs,(xs.zip vs).lookup p.1=some p.2)->((zs.map (·.1)).filterMap fun n=>((xs.zip vs).lookup n).map (n,·))=zs:=by
  intro zs
  induction zs with
  | nil=>intro _;rfl
  | cons p zs ih=>
   intro h
   rw [List.map_cons,List.filterMap_cons,h p List.mem_cons_self]
   simp only [Option.map_some]
   rw [ih fun q hq=>h q (List.mem_cons_of_mem _ hq)]
 have h1:(xs.zip vs).map (·.1)=xs:=by rw [List.map_fst_zip];exact o342 hl
 have:=key (xs.zip vs) fun p hp=>lookup_of_mem (by rw [h1];exact hn) hp
 rw [h1] at this
 exact this
theorem bind2 {σ δ α:Type} {a:σ} {b:δ} {c1 c2:σ->δ->Prop} [∀ s d,Decidable (c1 s d)] [∀ s d,Decidable (c2 s d)] {A B r:σ->δ->Sem α} (h1:¬ c1 a b) (h2:¬ c2 a b):((pure a:Sem σ) >>= fun s=>(pure b:Sem δ) >>= fun d=>if c1 s d then A s d else if c2 s d then B s d else r s d)=r a b:=
 (if_neg h1).trans (if_neg h2)
theorem bind_plain {fd:FuncData} {as:List Arg} {vals:List Value} (hp:fd.params=⟨[],as,none,[],[],none,[]⟩) (hd:fd.defaults=.none) (hl:vals.length=as.length) (hn:(as.map Arg.arg).Nodup):
  bindArgs fd ⟨vals,[]⟩=pure ((as.map Arg.arg).zip vals):=by
 obtain ⟨_,_,_,_,_,_,_,_,_,_,_,_,_,_,_⟩:=fd
 cases hp;cases hd
 have hl':(as.map Arg.arg).length=vals.length:=by rw [List.length_map];exact hl.symm
 have e:List.drop (((none:Option (Array Value)).getD #[]).toList.length-(as.map Arg.arg).length) ((none:Option (Array Value)).getD #[]).toList=[]:=List.drop_nil
 refine (bind2 (σ:=List (Str×Value)×List (Str×Value)) (δ:=Option (Array Value)) (b:=none) ?_ ?_).trans ?_
 ·show ¬ (decide (vals.length > (as.map Arg.arg).length)&&true)=true
  rw [hl',Bool.and_true,decide_eq_true_iff];exact Nat.lt_irrefl _
 ·show ¬ (!(((as.map Arg.arg).take ((as.map Arg.arg).length-(List.drop (((none:Option (Array Value)).getD #[]).toList.length-(as.map Arg.arg).length) ((none:Option (Array Value)).getD #[]).toList).length)).filter fun n=>(((as.map Arg.arg).zip vals).lookup n).isNone).isEmpty)=true
  rw [e,List.filter_eq_nil_iff.2 fun x hx=>by rw [zip_lookup_some hl' (List.mem_of_mem_take hx)];exact Bool.false_ne_true];exact Bool.false_ne_true
 ·show (forIn (((as.map Arg.arg).drop ((as.map Arg.arg).length-(List.drop (((none:Option (Array Value)).getD #[]).toList.length-(as.map Arg.arg).length) ((none:Option (Array Value)).getD #[]).toList).length)).zip (List.drop (((none:Option (Array Value)).getD #[]).toList.length-(as.map Arg.arg).length) ((none:Option (Array Value)).getD #[]).toList)) _ _ >>= _)=_
  rw [e,List.zip_nil_right]
  show (pure ((as.map Arg.arg++[]).filterMap fun n=>(((as.map Arg.arg).zip vals).lookup n).map (n,·)):Sem _)=_
  rw [List.append_nil,zip_filterMap hl' hn]
theorem bindL_mem {kd:Str->Option NameKind}:∀ {binds:List (Str×Value)} {m:Str->Option Value} {x:Str} {v:Value},(binds.map (·.1)).Nodup->(x,v)∈binds->kd x=some .local->bindL kd binds m x=some v
 | [],_,_,_,_,h,_=>by cases h
 | (n,u)::r,m,x,v,hn,h,hk=>by
  simp only [List.map_cons,List.nodup_cons] at hn
  have other:∀ {r:List (Str×Value)} {m:Str->Option Value},x∉r.map (·.1)->bindL kd r m x=m x:=by
   intro r
   induction r with
   | nil=>intro m _;rfl
   | cons q r ih=>
    intro m hq
    simp only [List.map_cons,List.mem_cons,not_or] at hq
    rw [bindL,ih hq.2]
    split
    ·exact if_neg hq.1
    ·rfl
  rcases List.mem_cons.mp h with e | hm
  ·cases e
   rw [bindL,other hn.1,if_pos hk,if_pos rfl]
  ·rw [bindL];exact bindL_mem hn.2 hm hk
theorem bindC_mem {kd:Str->Option NameKind}:∀ {binds:List (Str×Value)} {m:Str->Option Value} {x:Str} {v:Value},(binds.map (·.1)).Nodup->(x,v)∈binds->kd x≠some .local->bindC kd binds m x=some v
 | [],_,_,_,_,h,_=>by cases h
 | (n,u)::r,m,x,v,hn,h,hk=>by
  simp only [List.map_cons,List.nodup_cons] at hn
  have other:∀ {r:List (Str×Value)} {m:Str->Option Value},x∉r.map (·.1)->bindC kd r m x=m x:=by
   intro r
   induction r with
   | nil=>intro m _;rfl
   | cons q r ih=>
    intro m hq
    simp only [List.map_cons,List.mem_cons,not_or] at hq
    rw [bindC,ih hq.2]
    split
    ·rfl
    ·exact if_neg hq.1
  rcases List.mem_cons.mp h with e | hm
  ·cases e
   rw [bindC,other hn.1,if_neg hk,if_pos rfl]
  ·rw [bindC];exact bindC_mem hn.2 hm hk
theorem cellsFrom_some:∀ {names:List (Str×NameKind)} {n:Nat} {acc:List (Str×Addr)} {x:Str},((x,NameKind.cell)∈names\/∃ a,acc.lookup x=some a)->∃ a,(cellsFrom n names acc).lookup x=some a
 | [],n,acc,x,h=>by
  rcases h with h | h
  ·cases h
  ·exact h
 | (y,k)::r,n,acc,x,h=>by
  rw [cellsFrom]
  split
  ·rename_i hk
   refine cellsFrom_some ?_
   rcases h with h | ⟨a,ha⟩
   ·rcases List.mem_cons.mp h with e | h
    ·cases e;exact .inr ⟨n,by simp⟩
    ·exact .inl h
   ·right
    rw [List.lookup_cons]
    split
    ·exact ⟨_,rfl⟩
    ·exact ⟨a,ha⟩
  ·rename_i hk
   refine cellsFrom_some ?_
   rcases h with h | h
   ·rcases List.mem_cons.mp h with e | h
    ·cases e;exact absurd rfl hk
    ·exact .inl h
   ·exact .inr h
noncomputable def defOk (os:List (Str×Opt)) (d:Def):Bool:=
 d.args.posonlyargs.isEmpty&&d.args.vararg.isNone&&d.args.kwonlyargs.isEmpty&&d.args.kw_defaults.isEmpty&&d.args.kwarg.isNone&&d.args.defaults.isEmpty &&
 d.scope.kind==.function&&!d.scope.isCoroutine&&!d.scope.isGenerator&&decide ((slotsOf d).map (·.1)).Nodup &&
 (slotsOf d).all (fun p=>(d.scope.names.lookup p.1==some .local||d.scope.names.lookup p.1==some .cell)&&!(p.1==("__debug__" : Str))) &&
 (mvOf os d).all (fun i=>decide (d.args.args.length<=i))&&decide ((slotsOf d).length < 1000)
structure DefOk (os:List (Str×Opt)) (d:Def):Prop where
 params:d.args=⟨[],d.args.args,none,[],[],none,[]⟩
 kind:d.scope.kind=.function
 co:d.scope.isCoroutine=false
 gen:d.scope.isGenerator=false
 nodup:((slotsOf d).map (·.1)).Nodup
 kinds:∀ x i,(x,i)∈slotsOf d->(d.scope.names.lookup x=some .local\/d.scope.names.lookup x=some .cell)/\(x==("__debug__" : Str))=false
 mv:∀ i∈mvOf os d,d.args.args.length<=i
 few:(slotsOf d).length < 1000
theorem args_eta {po as ko:List Arg} {va kw:Option Arg} {kd:List (Option PySem.Expr)} {df:List PySem.Expr} (h1:po.isEmpty=true) (h2:va.isNone=true) (h3:ko.isEmpty=true) (h4:kd.isEmpty=true) (h5:kw.isNone=true) (h6:df.isEmpty=true):Arguments.mk po as va ko kd kw df=⟨[],as,none,[],[],none,[]⟩:=by
 rw [List.isEmpty_iff.1 h1,Option.isNone_iff_eq_none.1 h2,List.isEmpty_iff.1 h3,List.isEmpty_iff.1 h4,Option.isNone_iff_eq_none.1 h5,List.isEmpty_iff.1 h6]
theorem args_eta' {a:Arguments} (h1:a.posonlyargs.isEmpty=true) (h2:a.vararg.isNone=true) (h3:a.kwonlyargs.isEmpty=true) (h4:a.kw_defaults.isEmpty=true) (h5:a.kwarg.isNone=true) (h6:a.defaults.isEmpty=true):a=⟨[],a.args,none,[],[],none,[]⟩:=by cases a;exact args_eta h1 h2 h3 h4 h5 h6
theorem defOk_ok {os:List (Str×Opt)} {d:Def} (h:defOk os d=true):DefOk os d:=by
 have a13:=Bool.and_eq_true_iff.1 h
 have a12:=Bool.and_eq_true_iff.1 a13.1
 have a11:=Bool.and_eq_true_iff.1 a12.1
 have a10:=Bool.and_eq_true_iff.1 a11.1
 have a9:=Bool.and_eq_true_iff.1 a10.1
 have a8:=Bool.and_eq_true_iff.1 a9.1
 have a7:=Bool.and_eq_true_iff.1 a8.1
 have a6:=Bool.and_eq_true_iff.1 a7.1
 have a5:=Bool.and_eq_true_iff.1 a6.1
 have a4:=Bool.and_eq_true_iff.1 a5.1
 have a3:=Bool.and_eq_true_iff.1 a4.1
 have a2:=Bool.and_eq_true_iff.1 a3.1
 refine ⟨args_eta' a2.1 a2.2 a3.2 a4.2 a5.2 a6.2,eq_of_beq a7.2,(Bool.not_eq_true' _ ▸ a8.2),(Bool.not_eq_true' _ ▸ a9.2),of_decide_eq_true a10.2,fun x i hm=>?_,fun i hi=>of_decide_eq_true (List.all_eq_true.1 a12.2 i hi),of_decide_eq_true a13.2⟩
 have a:=Bool.and_eq_true_iff.1 (List.all_eq_true.1 a11.2 (x,i) hm)
 exact ⟨(Bool.or_eq_true_iff.1 a.1).imp eq_of_beq eq_of_beq,(Bool.not_eq_true' _ ▸ a.2)⟩
theorem slots_idx (d:Def):((slotsOf d).map (·.2)).Nodup:=by
 unfold slotsOf
 rw [List.zipIdx_map_snd]
 exact List.nodup_range' (step:=1)
theorem slots_get {d:Def} {x:Str} {i:Nat} (h:(x,i)∈slotsOf d):(paramsOf d.args++(d.scope.names.filter fun p=>(p.2==.local||p.2==.cell)&&!(paramsOf d.args).contains p.1).map (·.1))[i]?=some x:=by
 unfold slotsOf at h
 rw [List.mem_zipIdx_iff_getElem?] at h
 exact h
theorem slots_param {d:Def} {x:Str} {i:Nat} (h:(paramsOf d.args)[i]?=some x):(x,i)∈slotsOf d:=by
 unfold slotsOf
 rw [List.mem_zipIdx_iff_getElem?]
 obtain ⟨h1,h2⟩:=List.getElem?_eq_some_iff.mp h
 show _=some x
 rw [List.getElem?_append_left h1];exact h
structure FnAt (os:List (Str×Opt)) (B:Heap) (a:Addr) (d:Def):Prop where
 ok:DefOk os d
 obj:∃ o fd,B.get? a=some o/\o.data=.func fd/\fd.params=d.args/\fd.body=.stmts d.body/\fd.scope=d.scope/\fd.globals=mainGlobals/\fd.closure=[]/\fd.defaults=.none/\fd.builtins=builtinsNs/\B.CodeRec fd.code fd.qualname
inductive RkIs (t:TC):List Stmt->PE×PE->Prop where
 | mk {e test:Expr} {x m:Str} {mk:Nat} {xp ep mp cp rp ip:Pos} {rest:List Stmt} {a c:PE×Cl} (ha:Ok t e a.1 a.2) (hc:Ok t test c.1 c.2) (he:isComp e=false) (hg:t.glob x=true) (hx:x=("TooMany" : Str)):
  RkIs t (.Expr e ep::.If test [.Raise (some (.Call (.Name x xp) [.Constant (.str m) mk mp] [] cp)) none rp] [] ip::rest) (a.1,c.1)
noncomputable def toRk (n:Nat) (t:TC) (body:List Stmt):Option { q:PE×PE // RkIs t body q }:=match body with
 | .Expr (.Call (.Name g gp) es [] cp) ep::.If test [.Raise (some (.Call (.Name x xp) [.Constant (.str m) mk mp] [] cpos)) none rp] [] ip::rest=>
  if h:t.glob x=true/\x=("TooMany" : Str) then (toPE n t (.Call (.Name g gp) es [] cp)).bind fun a=>(toPE n t test).bind fun c=>some ⟨(_,_),.mk a.2 c.2 rfl h.1 h.2⟩ else none
 | _=>none
structure FnsOk (N:Nat) (os:List (Str×Opt)) (G:List (Str×GE)) (fa:Nat->Addr) (B:Heap) (ds:List Def) (fns:List Fn):Prop where
 fn:∀ x i ar fr,G.lookup x=some (.fn i ar fr)->∃ d p,ds[i]?=some d/\fns[i]?=some p/\fnOf N os G d=some p/\(optOf os d.name).fr=fr/\ar=d.args.args.length/\FnAt os B (fa i) d
 few:fns.length<=1000
 x:∀ i ar fr,G.lookup ("reckoned" : Str)=some (.fn i ar fr)->∃ d p q r,ds[i]?=some d/\fns[i]?=some p/\RkIs (tcOf os G d) d.body q/\p.body=.expr q.1::.ite q.2 [.halt] []::r/\∀ cf ρ,exr cf ρ r=.stuck
section
theorem frs_deeper {A:Around} {env:Env} {L:Addr} (h:∃ l,A.frames=some l/\∀ e∈l,e.scope.kind≠.module/\∃ L,e.frame=some L) (hf:env.frame=some L):frs (A.deeper env)=L::frs A:=by
 obtain ⟨l,hl,_⟩:=h
 unfold frs
 rw [Around.frames_deeper hl,hl]
 simp [hf]
theorem rds_mem {h:Heap} {P:Addr->Prop} {ds:List PV} {vs:List Value} (r:Rds h P ds vs) {i:Nat} {d:PV} (hd:ds[i]?=some d):∃ v,vs[i]?=some v/\Rd h P d v:=r.get hd
theorem frame_sound {os:List (Str×Opt)} {G:List (Str×GE)} {fa:Nat->Addr} {B:Heap} {d:Def} {D i:Nat} (gnd:Gnd G fa B) (fat:FnAt os B (fa i) d) {A:Around} {s:Shared} {args:List PV} {vs:List Value} {P:Addr->Prop}
  (hal:args.length=d.args.args.length) (here:Here B (D+1) A s.heap) (hP:∀ a∈frs A,¬ P a) (hr:Rds s.heap P args vs) {R:Result->Shared->Prop}
  (run:∀ (fx:Fix) (own:Addr->Option Nat) (s₁:Shared),FixOk fx->fx.t=tcOf os G d->FrK fx->fx.B=B->fx.fa=fa->fx.D=D->fx.c.h0=s.heap->fx.c.P0=P->(∃ h1 t1,s₁=up s h1 t1) ->
   St fx.c own (args.map some++List.replicate ((slotsOf d).length+6-d.args.args.length) none) s₁->(∀ {h':Heap},GrowH (frs fx.c.A) s.heap h'->GrowH (frs A) s.heap h') ->
   wpAny (model prog w) fx.c.A (execs d.body fx.c.env) (fun f s'=>R (.ok (.ret (match f with | .ret v=>v | _=>.none))) s')
    (fun e s'=>wpAny (model prog w) fx.c.A (leaving fx.c.env e) (fun _ s''=>R (.error e) s'') (fun e' s''=>R (.error e') s'') s') s₁):
  codeAny (model prog w) A (.call (.ref (fa i)) ⟨vs,[]⟩) R s:=by
 obtain ⟨ok,o,fd,hob,hdata,hpar,hbody,hscope,hglob,hclo,hdef,hbui,hcode⟩:=fat
 have hvl:vs.length=d.args.args.length:=by rw [hr.length,hal]
 have hkB:∀ b o,B.get? b=some o->s.heap.get? b=some o:=fun b o h=>(here.base b o h).2
 have hnp:(paramsOf d.args).Nodup:=by
  have:=ok.nodup
  unfold slotsOf at this
  rw [List.zipIdx_map_fst] at this
  exact (List.nodup_append.mp this).1
 have hbind:bindArgs fd ⟨vs,[]⟩=pure ((paramsOf d.args).zip vs):=bind_plain (hpar.trans ok.params) hdef hvl hnp
 have hpl:(paramsOf d.args).length=vs.length:=by unfold paramsOf;rw [List.length_map,hvl]
 have hbn:(((paramsOf d.args).zip vs).map (·.1)).Nodup:=by rw [List.map_fst_zip (by exact o342 hpl)];exact hnp
 have hzip:∀ {x v},(x,v)∈(paramsOf d.args).zip vs->∃ j,(paramsOf d.args)[j]?=some x/\vs[j]?=some v:=fun {x v} hm=>by
  obtain ⟨j,hj,e⟩:=List.mem_iff_getElem.mp hm
  rw [List.getElem_zip] at e
  rw [List.length_zip] at hj
  refine ⟨j,?_,?_⟩
  ·rw [List.getElem?_eq_getElem (by exact o343 hj)];exact congrArg (some ·.1) e
  ·rw [List.getElem?_eq_getElem (by exact o344 hj)];exact congrArg (some ·.2) e
 have cellOk:∀ {x:Str} {n:Nat},d.scope.names.lookup x=some .cell->∃ a,(cellsFrom n d.scope.names []).lookup x=some a:=fun h=>cellsFrom_some (.inl (mem_of_lookup h))
 refine codeAny_call_cells (by have:=here.depth;exact o345 this) (hkB _ _ hob) hdata (gnd.nolimit.keeps hkB) (hcode.keeps hkB) hbody hbind hclo (fun x hx=>?_) (fun s₁ hin=>?_) (by rw [hscope];exact ok.co) (by rw [hscope];exact ok.gen) (by rw [hscope];exact ok.kind)
 ·obtain ⟨j,hj,_⟩:=hzip (x:=x.1) (v:=x.2) hx
  rw [hscope]
  rcases (ok.kinds x.1 j (slots_param hj)).1 with h | h
  ·exact .inl h
  ·refine .inr ⟨h,?_⟩
   obtain ⟨a,ha⟩:=cellOk (n:=s.heap.objs.size+1) h
   rw [ha];rfl
 obtain ⟨⟨⟨h1,t1,rfl⟩,hns,hkeep,hfresh⟩,hcell,hapart,habove⟩:=hin
 dsimp only at hns hkeep hfresh hcell
 have hnewL:s.heap.get? s.heap.objs.size=none:=newSize s.heap
 generalize hL:s.heap.objs.size=L at *
 let env:=callEnvC fd L (fa i)
 have hefr:env.frame=some L:=rfl
 have hloc:env.locals=L:=rfl
 have hsc:env.scope=d.scope:=hscope
 have hcells:env.cells=cellsFrom (L+1) d.scope.names []:=by show cellsFrom (L+1) fd.scope.names []=_;rw [hscope]
 have hkind:∀ x,env.kindOf x=d.scope.names.lookup x:=fun x=>by show env.scope.names.lookup x=_;rw [hsc]
 let c:Cx:={ env:=env,A:=A.deeper env,h0:=s.heap,P0:=P,names:=slotsOf d,mv:=mvOf os d }
 have hfrs:frs (A.deeper env)=L::frs A:=frs_deeper here.frames hefr
 have hLfr:L∉frs A:=fun hm=>by
  obtain ⟨m,o',_,_,ho',_⟩:=here.fr L hm
  rw [hnewL] at ho';cases ho'
 have mvlt:∀ i∈mvOf os d,i < (slotsOf d).length:=fun j hj=>by
  obtain ⟨q,hq,e⟩:=List.mem_filterMap.mp hj
  split at e
  ·cases e
   have:=(List.getElem?_eq_some_iff.mp (slots_get hq)).1
   unfold slotsOf
   rw [List.length_zipIdx];exact this
  ·cases e
 have cok:CxOk c:={
  kind:=by show env.scope.kind=_;rw [hsc];exact ok.kind
  nodupN:=ok.nodup
  nodupI:=slots_idx d
  kinds:=fun x j hm=>by
   rcases (ok.kinds x j hm).1 with h | h
   ·exact .inl ((hkind x).trans h)
   ·refine .inr ⟨(hkind x).trans h,?_⟩
    show ∃ a,env.cells.lookup x=some a
    rw [hcells];exact cellOk h
  debug:=fun x j hm=>(ok.kinds x j hm).2
  apart:=hapart
  handled:=here.handled
  dumNot:=fun hm=>by
   have h1:=mvlt _ hm
   have h2:=ok.few
   unfold dum at h1
   exact (o346 h1 h2).elim
  units:=by show A.units+3+200 < cLine;have:=here.units;exact o347 this
  frames:=by
   obtain ⟨l,hl,hl2⟩:=here.frames
   refine ⟨env::l,Around.frames_deeper hl,fun e he=>?_⟩
   rcases List.mem_cons.mp he with rfl | he
   ·exact ⟨by (rw [hsc,ok.kind];exact fun q=>(by cases q)),L,rfl⟩
   ·exact hl2 e he }
 let fx:Fix:={ c:=c,t:=tcOf os G d,B:=B,fa:=fa,D:=D }
 have F:FixOk fx:={
  ok:=cok
  scope:=by show env.scope.names=_;rw [hsc];rfl
  names:=rfl
  mv:=rfl
  gl:=hglob
  bl:=hbui
  gnd:=gnd
  base:=fun b o hb=>⟨by
   show b∉frs (A.deeper env)
   rw [hfrs]
   intro hm
   rcases List.mem_cons.mp hm with rfl | hm
   ·rw [hkB b o hb] at hnewL;cases hnewL
   ·exact (here.base b o hb).1 hm,hkB b o hb⟩
  depth:=by show A.depth+1+D < recursionLimit;have:=here.depth;exact o348 this
  units:=by show A.units+3+20*D+300 < cLine;have:=here.units;exact o349 this
  cb:=fun x j hm=>by
   have:=(List.getElem?_eq_some_iff.mp (slots_get hm)).1
   show j < (slotsOf d).length
   unfold slotsOf
   rw [List.length_zipIdx];exact this
  mvb:=mvlt }
 let own:Addr->Option Nat:=fun a=>if a=L\/a∈frs A then some dum else none
 have hρ:∀ {j:Nat} {e:PV},(args.map some++List.replicate ((slotsOf d).length+6-d.args.args.length) none)[j]?=some (some e)->args[j]?=some e:=fun {j e} h=>by
  rcases Nat.lt_or_ge j args.length with hj | hj
  ·rw [List.getElem?_append_left (by simpa using hj),List.getElem?_map] at h
   cases q:args[j]? with
   | none=>rw [q] at h;cases h
   | some e'=>rw [q] at h;cases h;rfl
  ·rw [List.getElem?_append_right (by simpa using hj),List.getElem?_replicate] at h
   split at h<;>cases h
 have st:St c own (args.map some++List.replicate ((slotsOf d).length+6-d.args.args.length) none) (up s (h1) (t1)):=by
  refine ⟨.of_keeps hkeep,fun a ha=>?_,⟨if_pos (.inl rfl),_,hns⟩,hnewL,fun n a ha=>⟨_,hcell n a ha⟩,fun n a ha=>?_,fun a ha=>?_,fun a j ha hj=>?_,fun x j e hm he=>?_⟩
  ·have ha':a∈L::frs A:=hfrs ▸ ha
   rcases List.mem_cons.mp ha' with rfl | hm
   ·exact ⟨if_pos (.inl rfl),_,hns⟩
   ·obtain ⟨m,hm'⟩:=here.fr a hm
    exact ⟨if_pos (.inr hm),m,hm'.keeps hkeep⟩
  ·have:=habove n a (mem_of_lookup ha)
   cases q:s.heap.get? a with
   | none=>rfl
   | some o'=>have h2:=Heap.lt_size q;rw [hL] at h2;exact absurd h2 (Nat.not_lt.mpr (Nat.le_of_lt this))
  ·by_cases q:a=L\/a∈frs A
   ·rcases q with rfl | q
    ·obtain ⟨o',_,_,ho',_⟩:=hns;exact ⟨o',ho'⟩
    ·obtain ⟨m,o',_,_,ho',_⟩:=here.fr a q
     exact ⟨o',hkeep _ _ ho'⟩
   ·exact absurd (if_neg q) ha
  ·have:own a=some dum\/own a=none:=by
    by_cases q:a=L\/a∈frs A
    ·exact .inl (if_pos q)
    ·exact .inr (if_neg q)
   rcases this with q | q
   ·rw [q] at ha;cases ha;exact absurd hj cok.dumNot
   ·rw [q] at ha;cases ha
  ·have he':=hρ he
   obtain ⟨v,hv,hrv⟩:=rds_mem hr he'
   have hjl:j < args.length:=(List.getElem?_eq_some_iff.mp he').1
   have hx:(paramsOf d.args)[j]?=some x:=by
    have:=slots_get hm
    rwa [List.getElem?_append_left (by exact o350 hal (rfl:d.args.args.length=d.args.args.length) hvl hpl hjl)] at this
   have hxv:(x,v)∈(paramsOf d.args).zip vs:=by
    obtain ⟨h2,h3⟩:=List.getElem?_eq_some_iff.mp hx
    obtain ⟨h4,h5⟩:=List.getElem?_eq_some_iff.mp hv
    refine List.mem_iff_getElem.mpr ⟨j,by rw [List.length_zip];exact o351 hal (rfl:d.args.args.length=d.args.args.length) hvl hpl hjl,?_⟩
    rw [List.getElem_zip,h3,h5]
   refine ⟨v,?_,?_⟩
   ·rcases (ok.kinds x j hm).1 with h | h
    ·have hk:env.kindOf x=some .local:=(hkind x).trans h
     exact .inl hk _ hns (bindL_mem hbn hxv hk)
    ·have hk:env.kindOf x=some .cell:=(hkind x).trans h
     obtain ⟨a,ha⟩:=cellOk (n:=L+1) h
     have ha':env.cells.lookup x=some a:=by rw [hcells];exact ha
     refine .inr hk a ha' ?_
     have:=hcell x a ha'
     rwa [bindC_mem hbn hxv (by show env.kindOf x≠_;rw [hk];exact fun q=>by cases q)] at this
   ·have hmv:j∉mvOf os d:=fun hj=>by have:=ok.mv j hj;exact (o352 hal (rfl:d.args.args.length=d.args.args.length) hjl this).elim
    unfold VRd
    rw [if_neg (show j∉c.mv from hmv)]
    refine Rd.to (fun a o ho _=>hkeep a o ho) e (Rd.imp (fun a o ho _ pa=>⟨.inl pa,if_neg ?_⟩) e hrv)
    rintro (rfl | hm')
    ·rw [hnewL] at ho;cases ho
    ·exact hP a hm' pa
 have shrink:∀ {h':Heap},GrowH (frs (A.deeper env)) s.heap h'->GrowH (frs A) s.heap h':=fun {h'} g b o hb=>by
  obtain ⟨g1,g2⟩:=g b o hb
  refine ⟨fun hf=>g1 fun hm=>?_,g2⟩
  rw [hfrs] at hm
  rcases List.mem_cons.mp hm with rfl | hm
  ·rw [hnewL] at hb;cases hb
  ·exact hf hm
 exact run fx own _ F rfl ⟨let ⟨l,hl,_⟩:=here.frames;⟨l,Around.frames_deeper hl⟩,rfl⟩ rfl rfl rfl rfl rfl ⟨h1,t1,rfl⟩ st shrink
theorem call_v {N:Nat} {os:List (Str×Opt)} {G:List (Str×GE)} {fa:Nat->Addr} {B:Heap} {ds:List Def} {fns:List Fn} (K:FnsOk N os G fa B ds fns) (gnd:Gnd G fa B) {D:Nat} (ih:CF B fa G (callN fns D) D):CFv B fa G (callN fns (D+1)) (D+1):=
 fun A s f i ar fr args vs P hl hlen here hP hr hn=>by
  obtain ⟨d,p,hd,hp,hfn,hfr,har,fat⟩:=K.fn f i ar fr hl
  obtain ⟨⟨b,hb⟩,_,rfl⟩:=Option.map_eq_some_iff.mp hfn
  have hal:args.length=d.args.args.length:=hlen.trans har
  have e:=(callS (n:=D) (args:=args) hp).trans (if_pos hal)
  refine frame_sound gnd fat hal here hP hr fun fx own s₁ F ht FK hB hfa hD h0 hP0 hs st shrink=>?_
  obtain ⟨h1,t1,rfl⟩:=hs
  refine wpAny_mono ((show ExsOK fx (callN fns D) fr d.body b from (hfr ▸ hb) _ fx F ht (by rw [hB,hfa,hD,ht];exact ih) FK) own _ _ st fun q=>hn (e.trans (by dsimp only;rw [q];rfl))) (fun fl s' q=>?_) fun _ _ q=>q.elim
  cases fl with
  | next=>
   obtain ⟨ρ',own',e1,x',ev,_⟩:=q
   obtain ⟨⟨h2,t2,rfl⟩,_⟩:=ev
   refine ⟨.none,e.trans (by dsimp only;rw [e1];rfl),⟨h2,t2,rfl,shrink (h0 ▸ x'.base)⟩,?_⟩
   unfold RetRd
   split<;>rfl
  | ret v=>
   obtain ⟨dv,e1,⟨h2,t2,rfl⟩,g,rr⟩:=q
   rw [h0] at g rr
   rw [hP0] at rr
   exact ⟨dv,e.trans (by dsimp only;rw [e1];rfl),⟨h2,t2,rfl,shrink g⟩,rr⟩
  | brk=>exact q.elim
  | cont=>exact q.elim
theorem call_x {N:Nat} {os:List (Str×Opt)} {G:List (Str×GE)} {fa:Nat->Addr} {B:Heap} {ds:List Def} {fns:List Fn} (K:FnsOk N os G fa B ds fns) (gnd:Gnd G fa B) {D:Nat} (ih:CF B fa G (callN fns D) D):CFx B fa G (callN fns (D+1)) (D+1):=
 fun A s i ar fr args vs P hl hlen here hP hr hn=>by
  obtain ⟨d,p,hd,hp,hfn,hfr,har,fat⟩:=K.fn _ i ar fr hl
  obtain ⟨d',p',q,r,hd',hp',rk,hpb,hst⟩:=K.x i ar fr hl
  cases hd.symm.trans hd'
  cases hp.symm.trans hp'
  have hal:args.length=d.args.args.length:=hlen.trans har
  obtain ⟨⟨b,hb⟩,_,rfl⟩:=Option.map_eq_some_iff.mp hfn
  have hcall:=(callX (n:=D) (args:=args) K.few hp).trans (if_pos hal)
  dsimp only at hpb hcall
  rw [hpb] at hcall
  have hn:exr (callN fns D) (args.map some++List.replicate ((slotsOf d).length+6-d.args.args.length) none) (.expr q.1::.ite q.2 [.halt] []::r)≠Res.stuck:=fun z=>hn (hcall.trans z)
  refine frame_sound gnd fat hal here hP hr fun fx own s₁ F ht FK hB hfa hD h0 hP0 hs st shrink=>?_
  have C:CF fx.B fx.fa fx.t.G (callN fns D) fx.D:=by rw [hB,hfa,hD,ht];exact ih
  rw [<-ht] at rk
  generalize hbd:d.body=body at rk
  obtain ⟨ha,hc,he,hg,hx⟩:=rk
  have hn':((ev (callN fns D) _ _).bind (nil1 ((ev (callN fns D) _ _).bind fun x=>match x with | .bool b=>if b then .ok .none else exr (callN fns D) _ r | _=>.stuck)))≠Res.stuck:=hn
  refine wpAny_execs_cons (wpAny_Expr ((ha _ _ F rfl C).1.use F st hn' fun dv v s₂ e1 e2 hn1 g1 x1 r1=>?_) (notInter F) (swaps_not he))
  have hv:v=.none/\dv=.none:=by
   rename_i a c
   cases dv with
   | none=>exact ⟨by cases a with | mk a1 a2=>cases a2<;>exact r1,rfl⟩
   | _=>exact absurd rfl hn1
  obtain ⟨rfl,rfl⟩:=hv
  rw [nil1K] at hn1
  refine wpAny_execs_cons (wpAny_If ((hc _ _ F rfl C).2.use F x1 hn1 (fun dv hdv=>?_) fun tb s₃ e3 e4 hn2 g2 x2=>?_))
  ·cases dv with
   | bool b=>exact absurd rfl (hdv b)
   | _=>rfl
  cases tb with
  | false=>exact absurd (hst _ _) hn2
  | true=>
   refine wpAny_execs_cons (wpAny_mono (raise_sound F hg hx x2 (Q:=fun _ _=>False)) (fun _ _ q=>q.elim) fun v s' q=>?_)
   obtain ⟨C',D',a,h',tk,ex,rfl,rfl,u⟩:=q
   obtain ⟨outer,hfr'⟩:=FK.frames
   refine u.leave F hfr' FK.frame fun h'' gone=>?_
   obtain ⟨h1,t1,rfl⟩:=hs
   obtain ⟨h2,t2,rfl,_⟩:=g1
   obtain ⟨h3,t3,rfl,_⟩:=g2
   obtain ⟨g,_,hn3,ht3⟩:=gone
   rw [h0] at g hn3 ht3
   exact ⟨C',D',a,h'',_,hB ▸ ex,rfl,rfl,shrink g,hn3,ht3⟩
theorem call_sound {N:Nat} {os:List (Str×Opt)} {G:List (Str×GE)} {fa:Nat->Addr} {B:Heap} {ds:List Def} {fns:List Fn} (K:FnsOk N os G fa B ds fns) (gnd:Gnd G fa B) (D:Nat):CF B fa G (callN fns D) D:=by
 induction D with
 | zero=>exact ⟨fun A s f i ar fr args vs P hl hlen here hP hr hn=>absurd rfl hn,fun A s i ar fr args vs P hl hlen here hP hr hn=>absurd rfl hn⟩
 | succ D ih=>exact ⟨call_v K gnd ih,call_x K gnd ih⟩
end
end Mine.Internal
end
section
set_option backward.eqns.nonrecursive false
namespace Mine.Internal
open PySem PySem.Spec PyProof.Rows
noncomputable def recDef (r:DefRec):Def:=⟨r.name,r.params,r.body,r.scope⟩
noncomputable abbrev defs (p:Program):List Def:=(recsOf p).map recDef
noncomputable def refOf (mg:Str->Option Value) (x:Str):Addr:=match mg x with
 | some (.ref a)=>a
 | _=>0
noncomputable def faOf (p:Program) (mg:Str->Option Value) (i:Nat):Addr:=match (defs p)[i]? with
 | some d=>refOf mg d.name
 | none=>0
noncomputable def moreOk (p:Program):Str×GE->Prop
 | (x,.const (.int i))=>valOf p x=some (.int i)
 | _=>False
noncomputable def plainOk (p:Program) (loose:List Str):Bool:=biTable.all fun q=>!(startupNames.contains q.1)&&!(loose.contains q.1)&&!(((recsOf p).map (·.name)).contains q.1)&&!(((litsOf p).map (·.1)).contains q.1)&&!(((clssOf p loose).map (·.name)).contains q.1)
theorem bi_boot:∀ x v,(x,v)∈biTable->x≠("__name__" : Str)/\bootBuiltins x=some v:=by
 have h:∀ q∈biTable,q.1≠("__name__" : Str)/\bootBuiltins q.1=some q.2:=by
  intro q hq
  simp only [biTable,List.mem_cons,List.not_mem_nil,or_false] at hq
  rcases hq with rfl | rfl | rfl | rfl | rfl | rfl | rfl | rfl | rfl | rfl | rfl | rfl | rfl | rfl | rfl | rfl | rfl<;>exact ⟨by decide,by decide +kernel⟩
 exact fun x v hm=>h (x,v) hm
theorem mkG_fn {os:List (Str×Opt)} {ds:List Def} {more:List (Str×GE)} {x:Str} {e:GE} (h:(mkG os ds more).lookup x=some e):
  (∃ i d,ds[i]?=some d/\d.name=x/\e=.fn i d.args.args.length (optOf os d.name).fr)\/(x,e)∈more:=by
 have hm:=mem_of_lookup h
 unfold mkG at hm
 rcases List.mem_append.mp hm with hm | hm
 ·obtain ⟨q,hq,e'⟩:=List.mem_map.mp hm
  obtain ⟨d,i⟩:=q
  cases e'
  rw [List.mem_zipIdx_iff_getElem?] at hq
  exact .inl ⟨i,d,hq,rfl,rfl⟩
 ·exact .inr hm
section
variable {p:Program} {loose:List Str} {mean:ExcName->Option Value} {mg mb:Str->Option Value} {h:Heap} {os:List (Str×Opt)} {more:List (Str×GE)} {newId Bn initId:String} {bm:List Value}
theorem top_fn (T:Top p loose mean mg mb h) {i:Nat} {d:Def} (hd:(defs p)[i]?=some d):∃ o pm code doc,mg d.name=some (.ref (faOf p mg i))/\h.get? (faOf p mg i)=some o/\o.data=.func (PySem.Calls.docDef d.name d.args d.body d.scope pm code doc)/\h.CodeRec code d.name:=by
 have hm:=List.mem_of_getElem? hd
 obtain ⟨r,hr,rfl⟩:=List.mem_map.mp hm
 obtain ⟨a,o,pm,code,doc,h1,h2,h3,h4⟩:=T.fn r hr
 have:faOf p mg i=a:=by
  unfold faOf
  rw [hd]
  show refOf mg r.name=a
  unfold refOf
  rw [h1]
 rw [this]
 exact ⟨o,pm,code,doc,h1,h2,h3,h4⟩
theorem gnd_of_top (T:Top p loose mean mg mb h) (X:XcAt mg h) (FB:ExcBaseFacts Bn newId initId bm) (hsp:specOf p ("TooMany" : Str)=some (newId,bm)) (hmore:∀ q∈more,moreOk p q) (hpl:plainOk p loose=true):Gnd (mkG os (defs p) more) (faOf p mg) h where
 g:=by
  refine ⟨mg,T.g,fun x e hl=>?_,fun x v hm hn=>?_⟩
  ·rcases mkG_fn hl with ⟨i,d,hd,rfl,rfl⟩ | hm
   ·obtain ⟨o,pm,code,doc,h1,_⟩:=top_fn T hd
    exact ⟨_,h1,rfl⟩
   ·have:=hmore _ hm
    cases e with
    | fn _ _ _=>exact this.elim
    | const d=>
     cases d with
     | int i=>
      obtain ⟨v,hv,hr⟩:=T.const x (.int i) this
      refine ⟨v,hv,i,?_⟩
      cases hr h with
      | int _ t=>exact ⟨t,rfl,rfl⟩
     | _=>exact this.elim
  ·have:=List.all_eq_true.mp hpl (x,v) hm
   simp only [Bool.and_eq_true,Bool.not_eq_true',List.contains_eq_mem,decide_eq_false_iff_not] at this
   obtain ⟨⟨⟨⟨h1,h2⟩,h3⟩,h4⟩,h5⟩:=this
   exact T.free x h1 h2 h3 h4 h5
 b:=⟨mb,T.b,fun x v hm=>by
  obtain ⟨h1,h2⟩:=bi_boot x v hm
  rw [T.builtins x h1];exact h2⟩
 nolimit:=T.nolimit
 fn:=fun x i ar fr hl=>by
  rcases mkG_fn hl with ⟨j,d,hd,rfl,e⟩ | hm
  ·cases e
   obtain ⟨o,pm,code,doc,_,h2,h3,_⟩:=top_fn T hd
   exact ⟨o,_,h2,h3⟩
  ·exact (hmore _ hm).elim
 x:=by
  obtain ⟨C,O,_⟩:=T.ownAt hsp
  obtain ⟨K,C',D,hK,h1,h2,h3⟩:=X
  have e:=O.bound.symm.trans h1
  injection e with e;injection e with e;subst e
  exact ⟨C,D,⟨bm,newId,Bn,initId,mg,T.g,h2,O,FB⟩,K,hK,h3⟩
structure RkAt (p:Program) (N:Nat) (os:List (Str×Opt)) (G:List (Str×GE)) (fns:List Fn) (k:Nat) (a c:PE):Prop where
 few:fns.length<=1000
 rk:((defs p)[k]?.bind fun d=>(toRk N (tcOf os G d) d.body).map (·.1))=some (a,c)
 lk:∃ ar fr,G.lookup ("reckoned" : Str)=some (.fn k ar fr)
 fk:∃ q r,fns[k]?=some q/\q.body=.expr a::.ite c [.halt] []::r/\∀ cf ρ,exr cf ρ r=.stuck
theorem fns_of_top (T:Top p loose mean mg mb h) (hmore:∀ q∈more,moreOk p q) {N:Nat} {fns:List Fn} {k:Nat} {ra rc:PE} (rk:RkAt p N os (mkG os (defs p) more) fns k ra rc) (hok:(defs p).all (defOk os)=true) (hf:(defs p).map (fnOf N os (mkG os (defs p) more))=fns.map some):
  FnsOk N os (mkG os (defs p) more) (faOf p mg) h (defs p) fns where
 fn:=fun x i ar fr hl=>by
  rcases mkG_fn hl with ⟨j,d,hd,rfl,e⟩ | hm
  ·cases e
   obtain ⟨o,pm,code,doc,h1,h2,h3,h4⟩:=top_fn T hd
   have h5:=congrArg (fun l=>l[i]?) hf
   simp only [List.getElem?_map,hd,Option.map_some] at h5
   cases q:fns[i]? with
   | none=>rw [q] at h5;cases h5
   | some f=>
    rw [q] at h5
    simp only [Option.map_some,Option.some.injEq] at h5
    exact ⟨d,f,hd,rfl,h5,rfl,rfl,defOk_ok (List.all_eq_true.mp hok d (List.mem_of_getElem? hd)),o,_,h2,h3,rfl,rfl,rfl,rfl,rfl,rfl,rfl,h4⟩
  ·exact (hmore _ hm).elim
 few:=rk.few
 x:=fun i ar fr hl=>by
  obtain ⟨ar',fr',hl'⟩:=rk.lk
  rw [hl] at hl'
  cases hl'
  obtain ⟨d,hd,e⟩:=Option.bind_eq_some_iff.mp rk.rk
  obtain ⟨⟨q,hq⟩,_,e⟩:=Option.map_eq_some_iff.mp e
  obtain ⟨f,r,h1,h2,h3⟩:=rk.fk
  dsimp only at e
  subst e
  exact ⟨d,f,_,r,hd,h1,hq,h2,h3⟩
theorem rds_ints {P:Addr->Prop}:∀ {vs:List Value} {ns:List Int},IntsAre vs ns->Rds h P (ns.map .int) vs
 | _,_,.nil=>rfl
 | _,_,.cons n t r=>⟨_,_,rfl,⟨t,rfl⟩,rds_ints r⟩
theorem entry {s₁:Shared} (T:Top p loose mean mg mb s₁.heap) (X:XcAt mg s₁.heap) (FB:ExcBaseFacts Bn newId initId bm) (hsp:specOf p ("TooMany" : Str)=some (newId,bm)) (hmore:∀ q∈more,moreOk p q) (hpl:plainOk p loose=true) {N:Nat} {fns:List Fn} {k:Nat} {ra rc:PE} (rk:RkAt p N os (mkG os (defs p) more) fns k ra rc) (hok:(defs p).all (defOk os)=true) (hf:(defs p).map (fnOf N os (mkG os (defs p) more))=fns.map some)
  {x:Str} {i:Nat} (hx:(mkG os (defs p) more).lookup x=some (.fn i 1 false)) {fa a:Addr} (hfa:mg x=some (.ref fa)) {vs:List Value} {ns:List Int} (hL:s₁.heap.get? a=some { cls:=.type "list",data:=.seq vs.toArray }) (hI:IntsAre vs ns) (hn:ns.length<=lim)
  {D:Nat} (hD:D<=30) {d:PV} (hp:callN fns D i [.list (ns.map .int)]=.ok d):
  codeAny (model prog w) callerA (.call (.ref fa) ⟨[.ref a],[]⟩) (fun r s'=>∃ v,r=.ok (.ret v)/\Rd s'.heap (fun _=>True) d v/\(∀ b o,s₁.heap.get? b=some o->s'.heap.get? b=some o)/\∃ h' tk,s'=(up s₁ (h') (tk))) s₁:=by
 have G:=gnd_of_top (os:=os) T X FB hsp hmore hpl
 have K:=fns_of_top T hmore rk hok hf
 have hfa':fa=faOf p mg i:=by
  obtain ⟨mg',h1,h2,_⟩:=G.g
  obtain ⟨d',_,hd',_⟩:=K.fn x i 1 false hx
  rcases mkG_fn hx with ⟨j,dd,hdd,hxn,e⟩ | hm
  ·injection e with e _ _
   subst e
   obtain ⟨o,pm,code,doc,h3,_⟩:=top_fn T hdd
   rw [hxn,hfa] at h3
   injection h3 with h3
   injection h3
  ·exact (hmore _ hm).elim
 subst hfa'
 have hfr:frs callerA=[]:=rfl
 have here:Here s₁.heap D callerA s₁.heap:={
  handled:=rfl
  depth:=show 1+claimMargin+D < recursionLimit by exact o353 hD (show claimMargin=300 by decide +kernel) (show recursionLimit=1000 by decide +kernel)
  units:=by show 4+20*D+300 < cLine;unfold cLine;exact o354 hD
  frames:=⟨[],rfl,fun e he=>by cases he⟩
  fr:=fun a ha=>by rw [hfr] at ha;cases ha
  base:=fun b o hb=>⟨by (rw [hfr];exact fun q=>(by cases q)),hb⟩ }
 refine codeAny_mono ((call_sound K G D).v callerA s₁ x i 1 false [.list (ns.map .int)] [.ref a] (fun _=>True) hx rfl here (fun a ha=>by rw [hfr] at ha;cases ha) ⟨.ref a,[],rfl,⟨a,vs.toArray,rfl,trivial,⟨0,hL⟩,by rw [List.length_map];exact hn,by simpa using rds_ints hI⟩,rfl⟩ (by rw [hp];exact fun q=>by cases q)) fun r s' q=>?_
 cases r with
 | ok f=>
  cases f with
  | ret v=>
   obtain ⟨d',e1,g,rr⟩:=q
   rw [hp] at e1
   cases e1
   obtain ⟨h',tk,rfl,g'⟩:=g
   exact ⟨v,rfl,Rd.imp (fun _ _ _ _ _=>trivial) d rr,fun b o hb=>(g' b o hb).1 (by rw [hfr];exact fun q=>by cases q),h',tk,rfl⟩
  | next=>exact q.elim
  | brk=>exact q.elim
  | cont=>exact q.elim
 | error x=>exact q.elim
end
end Mine.Internal
end
section
namespace Mine.Internal
noncomputable def itr {α:Type} (f:α->α):Nat->α->α
 | 0,x=>x
 | k+1,x=>f (itr f k x)
theorem itr0 {α:Type} {f:α->α} {x:α}:itr f 0 x=x:=rfl
theorem itrS {α:Type} {f:α->α} {k:Nat} {x:α}:itr f (k+1) x=f (itr f k x):=rfl
theorem itr_add {α:Type} (f:α->α) (a b:Nat) (x:α):itr f (a+b) x=itr f a (itr f b x):=by
 induction a with
 | zero=>simp [itr0]
 | succ a ih=>rw [show a+1+b=(a+b)+1 by exact o1];simp [itrS,ih]
theorem itr_mul {α:Type} (f:α->α) (m:Nat) (x:α) (h:itr f m x=x):∀ k,itr f (k*m) x=x
 | 0=>by simp [itr0]
 | k+1=>by rw [Nat.add_mul,Nat.one_mul,itr_add,h,itr_mul f m x h k]
theorem nodup_le {α:Type} [BEq α] [LawfulBEq α]:∀ {l m:List α},l.Nodup->(∀ x∈l,x∈m)->l.length<=m.length
 | [],_,_,_=>by simp
 | a::t,m,hn,hs=>by
  have h1:=List.nodup_cons.1 hn
  have ha:a∈m:=hs a (by simp)
  have:∀ x∈t,x∈m.erase a:=fun x hx=>(List.mem_erase_of_ne (by rintro rfl;exact h1.1 hx)).2 (hs x (by simp [hx]))
  have h2:=nodup_le h1.2 this
  rw [List.length_erase_of_mem ha] at h2
  have:0 < m.length:=List.length_pos_of_mem ha
  simp;exact o3 h2 this
noncomputable def Reach {α:Type} (f:α->α) (x y:α):Prop:=∃ k,itr f k x=y
section
variable {α:Type} [DecidableEq α] {f g:α->α} {S:List α}
theorem Reach.refl (x:α):Reach f x x:=⟨0,rfl⟩
theorem Reach.step (x:α):Reach f x (f x):=⟨1,rfl⟩
theorem Reach.trans {x y z:α} (a:Reach f x y) (b:Reach f y z):Reach f x z:=by
 obtain ⟨i,rfl⟩:=a;obtain ⟨j,rfl⟩:=b;exact ⟨j+i,itr_add f j i x⟩
theorem itr_mem (hc:∀ x∈S,f x∈S) {x:α} (hx:x∈S):∀ k,itr f k x∈S
 | 0=>hx
 | k+1=>hc _ (itr_mem hc hx k)
theorem Reach.mem (hc:∀ x∈S,f x∈S) {x y:α} (hx:x∈S) (r:Reach f x y):y∈S:=by
 obtain ⟨k,rfl⟩:=r;exact itr_mem hc hx k
theorem itr_back (hc:∀ x∈S,f x∈S) (hg:∀ x∈S,g (f x)=x) {x:α} (hx:x∈S):∀ i d,itr f i x=itr f (i+d) x->x=itr f d x
 | 0,d,h=>by simpa [itr0,itrS] using h
 | i+1,d,h=>by
  rw [show i+1+d=(i+d)+1 by exact o1] at h
  simp only [itrS] at h
  have:=congrArg g h
  rw [hg _ (itr_mem hc hx _),hg _ (itr_mem hc hx _)] at this
  exact itr_back hc hg hx i d this
theorem period (hc:∀ x∈S,f x∈S) (hg:∀ x∈S,g (f x)=x) {x:α} (hx:x∈S):∃ m,0 < m/\itr f m x=x:=by
 let l:=(List.range (S.length+1)).map fun k=>itr f k x
 have hnd:¬ l.Nodup:=fun h=>by
  have:=nodup_le (m:=S) h (fun y hy=>by
   obtain ⟨k,-,rfl⟩:=List.mem_map.1 hy
   exact itr_mem hc hx k)
  simp [l] at this
  exact (o2 this).elim
 have:∃ i j,i < j/\itr f i x=itr f j x:=Classical.byContradiction fun hn=>hnd (by
  rw [List.Nodup,List.pairwise_iff_getElem]
  intro i j hi hj hij e
  simp [l] at e
  exact hn ⟨i,j,hij,e⟩)
 obtain ⟨i,j,hij,e⟩:=this
 refine ⟨j-i,by exact o5 hij,?_⟩
 have:=itr_back hc hg hx i (j-i) (by rw [e];congr 1;exact o6 hij)
 exact this.symm
theorem Reach.symm (hc:∀ x∈S,f x∈S) (hg:∀ x∈S,g (f x)=x) {x y:α} (hx:x∈S) (r:Reach f x y):Reach f y x:=by
 obtain ⟨k,rfl⟩:=r
 obtain ⟨m,hm,e⟩:=period hc hg hx
 refine ⟨k*m-k,?_⟩
 rw [<-itr_add]
 have:k<=k*m:=Nat.le_mul_of_pos_right k hm
 rw [show k*m-k+k=k*m by exact o4 this]
 exact itr_mul f m x e k
noncomputable def walk (f:α->α):Nat->List α->α->Option (List α)
 | 0,_,_=>none
 | n+1,found,x=>if x∈found then some found else walk f n (found++[x]) (f x)
theorem walk0 {f:α->α} {F:List α} {x:α}:walk f 0 F x=none:=rfl
theorem walkS {f:α->α} {n:Nat} {F:List α} {x:α}:walk f (n+1) F x=if x∈F then some F else walk f n (F++[x]) (f x):=rfl
theorem walk_spec (hc:∀ x∈S,f x∈S) (x0:α) (n:Nat):∀ (found:List α) (x:α),found.Nodup->(∀ y∈found,y∈S)->x∈S->(∀ y∈found,f y∈found\/f y=x)->(∀ y∈found,Reach f x0 y)->Reach f x0 x->(x0∈found\/x=x0)->S.length < n+found.length ->
  ∃ F,walk f n found x=some F/\F.Nodup/\(∀ y∈F,y∈S)/\∀ y,y∈F↔Reach f x0 y:=by
 induction n with
 | zero=>
  intro found x h1 h2 h3 h4 h5 h6 h7 h8
  have:=nodup_le h1 h2
  exact (o7 h8 this).elim
 | succ n ih=>
  intro found x h1 h2 h3 h4 h5 h6 h7 h8
  by_cases hx:x∈found
  ·refine ⟨found,by simp [walkS,hx],h1,h2,fun y=>⟨h5 y,fun r=>?_⟩⟩
   have h0:x0∈found:=by rcases h7 with h | rfl<;>assumption
   have hcl:∀ y∈found,f y∈found:=fun y hy=>by rcases h4 y hy with h | h;exact h;rw [h];exact hx
   exact Reach.mem hcl h0 r
  ·have e:walk f (n+1) found x=walk f n (found++[x]) (f x):=by simp [walkS,hx]
   rw [e]
   refine ih (found++[x]) (f x) ?_ ?_ (hc x h3) ?_ ?_ (h6.trans (.step x)) ?_ ?_
   ·rw [List.nodup_append];refine ⟨h1,by simp,?_⟩
    intro a ha b hb;simp at hb;subst hb;rintro rfl;exact hx ha
   ·intro y hy;simp at hy;rcases hy with h | rfl;exact h2 y h;exact h3
   ·intro y hy;simp at hy
    rcases hy with h | rfl
    ·rcases h4 y h with h' | h'
     ·left;simp [h']
     ·left;simp [h']
    ·right;rfl
   ·intro y hy;simp at hy;rcases hy with h | rfl;exact h5 y h;exact h6
   ·left;rcases h7 with h | rfl<;>simp [*]
   ·simp;exact o8 h8
theorem walk_face (hc:∀ x∈S,f x∈S) {x0:α} (h:x0∈S) {n:Nat} (hn:S.length < n):∃ F,walk f n [] x0=some F/\F.Nodup/\(∀ y∈F,y∈S)/\∀ y,y∈F↔Reach f x0 y:=
 walk_spec hc x0 n [] x0 (by simp) (by simp) h (by simp) (by simp) (.refl _) (.inr rfl) (by simpa using hn)
end
end Mine.Internal
end
section
set_option backward.eqns.nonrecursive false
namespace Mine.Internal
noncomputable def fnd (P:Nat->Bool):Nat->Nat->Option Nat
 | 0,_=>none
 | k+1,l=>if P l then some l else fnd P k (l+1)
theorem fnd0 {P:Nat->Bool} {l:Nat}:fnd P 0 l=none:=rfl
theorem fndS {P:Nat->Bool} {k l:Nat}:fnd P (k+1) l=if P l then some l else fnd P k (l+1):=rfl
noncomputable def cfn (P:Nat->Bool) (n l:Nat):Nat:=match fnd P (n-l) l with
 | some b=>b
 | none=>(fnd P n 0).getD 0
section
variable {P:Nat->Bool} {n l:Nat}
theorem cfn_here (h:l < n) (hp:P l=true):cfn P n l=l:=by
 unfold cfn;rw [show n-l=(n-l-1)+1 by exact o11 h];simp [fndS,hp]
theorem cfn_next (h:l < n) (hp:P l=false):cfn P n l=cfn P n (l+1):=by
 unfold cfn;rw [show n-l=(n-(l+1))+1 by exact o12 h];simp [fndS,hp]
theorem cfn_wrap:cfn P n n=cfn P n 0:=by
 unfold cfn;simp [fnd0];cases fnd P n 0<;>simp
theorem fnd_some:∀ {k l b:Nat},fnd P k l=some b->l<=b/\b < l+k/\P b=true
 | 0,_,_,h=>by simp [fnd0] at h
 | k+1,l,b,h=>by
  by_cases hp:P l=true
  ·simp [fndS,hp] at h;subst h;exact ⟨by exact o10,by exact o13,hp⟩
  ·simp [fndS,hp] at h
   have:=fnd_some h
   exact ⟨by exact o14 this.1,by exact o8 this.2.1,this.2.2⟩
theorem fnd_none:∀ {k l:Nat},fnd P k l=none->∀ b,l<=b->b < l+k->P b=false
 | 0,_,_,b,h1,h2=>by exact (o9 h1 h2).elim
 | k+1,l,h,b,h1,h2=>by
  by_cases hp:P l=true
  ·simp [fndS,hp] at h
  ·simp [fndS,hp] at h
   by_cases e:b=l
   ·subst e;simpa using hp
   ·exact fnd_none h b (by exact o16 h1 e) (by exact o17 h2)
theorem cfn_spec (he:∃ k,k < n/\P k=true) (h:l<=n):cfn P n l < n/\P (cfn P n l)=true:=by
 unfold cfn
 cases e:fnd P (n-l) l with
 | some b=>have:=fnd_some e;exact ⟨by simp;exact o15 h this.2.1,this.2.2⟩
 | none=>
  cases e2:fnd P n 0 with
  | some b=>have:=fnd_some e2;exact ⟨by simp;exact o18 this.2.1,this.2.2⟩
  | none=>
   obtain ⟨k,hk,hp⟩:=he
   have:=fnd_none e2 k (by exact o19) (by exact o20 hk)
   rw [this] at hp;cases hp
theorem fnd_rel {α:Type} {rel:α->α->Prop} (rf:∀ x,rel x x) (tr:∀ {x y z},rel x y->rel y z->rel x z) {h:Nat->α}:∀ {k l:Nat},(∀ i,l<=i->i < l+k->P i=false->rel (h i) (h (i+1))) ->
  match fnd P k l with
  | some b=>rel (h l) (h b)
  | none=>rel (h l) (h (l+k))
 | 0,l,hs=>by simp [fnd0];exact rf _
 | k+1,l,hs=>by
  by_cases hp:P l=true
  ·simp [fndS,hp];exact rf _
  ·have hp':P l=false:=by simpa using hp
   have ih:=fnd_rel rf tr (k:=k) (l:=l+1) (h:=h) (fun i h1 h2=>hs i (by exact o14 h1) (by exact o8 h2))
   have h0:=hs l (by exact o10) (by exact o13) hp'
   simp only [fndS,hp',Bool.false_eq_true,if_false]
   cases e:fnd P k (l+1) with
   | some b=>rw [e] at ih;exact tr h0 ih
   | none=>rw [e] at ih;have:=tr h0 ih;rw [show l+1+k=l+(k+1) by exact o22] at this;exact this
theorem cfn_rel {α:Type} {rel:α->α->Prop} (rf:∀ x,rel x x) (tr:∀ {x y z},rel x y->rel y z->rel x z) (he:∃ k,k < n/\P k=true) {h:Nat->α} (hs:∀ i,i < n->P i=false->rel (h i) (h (i+1))) (hw:rel (h n) (h 0)) (hl:l<=n):rel (h l) (h (cfn P n l)):=by
 have a:=fnd_rel (P:=P) rf tr (k:=n-l) (l:=l) (h:=h) (fun i h1 h2=>hs i (by exact o15 hl h2))
 have b:=fnd_rel (P:=P) rf tr (k:=n) (l:=0) (h:=h) (fun i h1 h2=>hs i (by exact o18 h2))
 unfold cfn
 cases e:fnd P (n-l) l with
 | some b=>rw [e] at a;exact a
 | none=>
  rw [e] at a
  rw [show l+(n-l)=n by exact o21 hl] at a
  cases e2:fnd P n 0 with
  | some c=>rw [e2] at b;exact tr (tr a hw) b
  | none=>
   obtain ⟨k,hk,hp⟩:=he
   have:=fnd_none e2 k (by exact o19) (by exact o20 hk)
   rw [this] at hp;cases hp
theorem all_rel {α:Type} {rel:α->α->Prop} (rf:∀ x,rel x x) (tr:∀ {x y z},rel x y->rel y z->rel x z) {h:Nat->α} (hs:∀ i,i < n->rel (h i) (h (i+1))) (hw:rel (h n) (h 0)) (hl:l<=n):rel (h l) (h 0):=by
 have a:=fnd_rel (P:=fun _=>false) rf tr (k:=n-l) (l:=l) (h:=h) (fun i h1 h2 _=>hs i (by exact o15 hl h2))
 cases e:fnd (fun _=>false) (n-l) l with
 | some b=>have:=(fnd_some e).2.2;cases this
 | none=>rw [e] at a;rw [show l+(n-l)=n by exact o21 hl] at a;exact tr a hw
end
noncomputable def col (w:List Nat) (l:Nat):Nat:=w.getD l 0
noncomputable def reg (s:Nat) (w:List Nat) (r l:Nat):Nat:=if r=0 then w.length else if r=s then w.length+1 else cfn (fun k=>col w k+1==r) w.length l
noncomputable def nt (w:List Nat) (p l:Nat):Nat:=cfn (fun k=>col w k==p||col w k+1==p) w.length l
noncomputable def np (w:List Nat) (p l:Nat):Nat×Bool:=(nt w p l,col w (nt w p l)==p)
noncomputable def pA (w:List Nat) (x:Nat×Bool):Nat:=col w x.1+(if x.2 then 1 else 0)
noncomputable def pB (w:List Nat) (x:Nat×Bool):Nat:=col w x.1+(if x.2 then 0 else 1)
structure Rope (s:Nat) (w:List Nat) (R:List (Nat×Bool)):Prop where
 hs:2<=s
 hw:∀ l,l < w.length->col w l+1 < s
 hc:∀ c,c+1 < s->∃ l,l < w.length/\col w l=c
 nd:R.Nodup
 mem:∀ l b,(l,b)∈R↔l < w.length
 suc:∀ g x,R[g]?=some x->R[(g+1) % R.length]?=some (np w (pA w x) (x.1+1))
section
variable {s:Nat} {w:List Nat} {R:List (Nat×Bool)} {r p l:Nat}
theorem reg_here (o:Rope s w R) (h:l < w.length):reg s w (col w l+1) l=l:=by
 have:=o.hw l h
 unfold reg;rw [if_neg (by exact o23),if_neg (by exact o24 this)]
 exact cfn_here h (by simp)
theorem reg_next (h:l < w.length) (hn:col w l+1≠r):reg s w r l=reg s w r (l+1):=by
 unfold reg;split;rfl;split;rfl
 exact cfn_next h (by simpa using hn)
theorem reg_wrap:reg s w r w.length=reg s w r 0:=by
 unfold reg;split;rfl;split;rfl;exact cfn_wrap
theorem reg_spec (o:Rope s w R) (h0:r≠0) (h1:r < s) (hl:l<=w.length):reg s w r l < w.length/\col w (reg s w r l)+1=r:=by
 unfold reg;rw [if_neg h0,if_neg (by exact o25 h1)]
 have:=cfn_spec (P:=fun k=>col w k+1==r) (n:=w.length) (l:=l) (by
  obtain ⟨k,hk,e⟩:=o.hc (r-1) (by exact o29 h0 h1)
  exact ⟨k,hk,by simp;exact o37 h0 e⟩) hl
 simpa using this
theorem reg_ne (o:Rope s w R) (hp:p < s) (hl:l<=w.length):reg s w p l≠reg s w (p+1) l:=by
 intro e
 by_cases h0:p=0
 ·subst h0
  by_cases h1:1=s
  ·have:=o.hs;exact (o26 h1 this).elim
  ·have:=reg_spec o (r:=1) (by exact o27) (by have:=o.hs;exact o30 hp h1) hl
   simp [reg] at e this;exact (o34 e this.1).elim
 ·have a:=reg_spec o h0 hp hl
  by_cases h1:p+1=s
  ·rw [h1] at e
   have:reg s w s l=w.length+1:=by unfold reg;rw [if_neg (by exact o36 hp),if_pos rfl]
   exact (o40 e a.1 this).elim
  ·have b:=reg_spec o (r:=p+1) (by exact o23) (by exact o41 hp h1) hl
   rw [e] at a;exact (o42 a.2 b.2).elim
theorem reg_le (o:Rope s w R) (hp:r<=s) (hl:l<=w.length):reg s w r l<=w.length+1:=by
 by_cases h0:r=0
 ·subst h0;simp [reg]
 ·by_cases h1:r=s
  ·subst h1;unfold reg;rw [if_neg h0,if_pos rfl];exact o28
  ·have:=reg_spec o h0 (by exact o32 hp h1) hl;exact o33 this.1
theorem touch (o:Rope s w R) (hp:p < s):∃ k,k < w.length/\(col w k==p||col w k+1==p)=true:=by
 by_cases h:p+1 < s
 ·obtain ⟨k,hk,e⟩:=o.hc p h;exact ⟨k,hk,by simp [e]⟩
 ·have:=o.hs
  obtain ⟨k,hk,e⟩:=o.hc (p-1) (by exact o31 hp this);exact ⟨k,hk,by simp;exact o39 e⟩
theorem nt_touch (o:Rope s w R) (hp:p < s) (hl:l<=w.length):col w (nt w p l)=p\/col w (nt w p l)+1=p:=by
 have:=(cfn_spec (touch o hp) hl).2
 simpa [nt] using this
theorem pB_np (o:Rope s w R) (hp:p < s) (hl:l<=w.length):pB w (np w p l)=p:=by
 have:=nt_touch o hp hl
 unfold pB np
 by_cases e:col w (nt w p l)=p
 ·simp [e]
 ·simp [e];exact o35 this e
theorem reg_nt (o:Rope s w R) (hp:p < s) (hl:l<=w.length) (hr:r=p\/r=p+1):reg s w r l=reg s w r (nt w p l):=by
 refine cfn_rel (rel:=Eq) (fun _=>rfl) (fun a b=>a.trans b) (touch o hp) (h:=fun k=>reg s w r k) ?_ reg_wrap hl
 intro i hi hP
 simp at hP
 exact reg_next hi (by exact o38 hr hP.1 hP.2)
theorem np_wrap:np w p w.length=np w p 0:=by unfold np nt;rw [cfn_wrap]
theorem np_next (h:l < w.length) (h1:col w l≠p) (h2:col w l+1≠p):np w p l=np w p (l+1):=by
 unfold np nt;rw [cfn_next h (by simp [h1,h2])]
theorem np_right (h:l < w.length):np w (col w l) l=(l,true):=by
 unfold np nt;rw [cfn_here h (by simp)];simp
theorem np_left (h:l < w.length):np w (col w l+1) l=(l,false):=by
 unfold np nt;rw [cfn_here h (by simp)];simp
end
end Mine.Internal
end
section
set_option backward.eqns.nonrecursive false
namespace Mine.Internal
noncomputable def nx (R:List (Nat×Bool)):Nat×Bool->Nat×Bool
 | (g,true)=>match R[g]? with
  | some (l,true)=>(R.idxOf (l,false),false)
  | some (l,false)=>(R.idxOf (l,true)+1,true)
  | none=>if g=R.length then (g+1,true) else (g,false)
 | (0,false)=>(0,true)
 | (k+1,false)=>match R[k]? with
  | some (l,true)=>(R.idxOf (l,false)+1,true)
  | some (l,false)=>(R.idxOf (l,true),false)
  | none=>(k,false)
noncomputable def pvv (R:List (Nat×Bool)):Nat×Bool->Nat×Bool
 | (0,true)=>(0,false)
 | (k+1,true)=>match R[k]? with
  | some (l,true)=>(R.idxOf (l,false),true)
  | some (l,false)=>(R.idxOf (l,true)+1,false)
  | none=>(k,true)
 | (g,false)=>match R[g]? with
  | some (l,true)=>(R.idxOf (l,false)+1,false)
  | some (l,false)=>(R.idxOf (l,true),true)
  | none=>if g=R.length then (g+1,false) else (g,true)
noncomputable def sds (m:Nat):List (Nat×Bool):=(List.range (m+2)).flatMap fun g=>[(g,true),(g,false)]
theorem mem_sds {m:Nat} {x:Nat×Bool}:x∈sds m↔x.1 < m+2:=by
 obtain ⟨g,b⟩:=x
 simp [sds]
 constructor
 ·rintro ⟨a,h,⟨rfl,_⟩ | ⟨rfl,_⟩⟩<;>exact h
 ·intro h;exact ⟨g,h,by cases b<;>simp⟩
section
variable {R:List (Nat×Bool)}
theorem at_idx {x:Nat×Bool} (h:x∈R):R[R.idxOf x]?=some x:=by
 have h2:=List.idxOf_lt_length_iff.2 h
 rw [List.getElem?_eq_getElem h2,List.getElem_idxOf]
theorem idx_at (nd:R.Nodup) {g:Nat} {x:Nat×Bool} (h:R[g]?=some x):R.idxOf x=g:=by
 obtain ⟨hg,rfl⟩:=List.getElem?_eq_some_iff.1 h
 exact nd.idxOf_getElem g hg
end
section
variable {s:Nat} {w:List Nat} {R:List (Nat×Bool)}
structure Code (n:Nat) (R:List (Nat×Bool)):Prop where
 nd:R.Nodup
 mem:∀ l b,(l,b)∈R↔l < n
theorem Rope.code (o:Rope s w R):Code w.length R:=⟨o.nd,o.mem⟩
theorem Code.lt {n:Nat} (o:Code n R) {g l:Nat} {b:Bool} (h:R[g]?=some (l,b)):l < n/\g < R.length:=
 ⟨(o.mem l b).1 (List.mem_of_getElem? h),(List.getElem?_eq_some_iff.1 h).1⟩
theorem Code.at {n:Nat} (o:Code n R) {l:Nat} (h:l < n) (b:Bool):R[R.idxOf (l,b)]?=some (l,b):=at_idx ((o.mem l b).2 h)
theorem Code.ilt {n:Nat} (o:Code n R) {l:Nat} (h:l < n) (b:Bool):R.idxOf (l,b) < R.length:=List.idxOf_lt_length_iff.2 ((o.mem l b).2 h)
theorem Rope.lt (o:Rope s w R) {g l:Nat} {b:Bool} (h:R[g]?=some (l,b)):l < w.length/\g < R.length:=o.code.lt h
theorem Rope.at (o:Rope s w R) {l:Nat} (h:l < w.length) (b:Bool):R[R.idxOf (l,b)]?=some (l,b):=o.code.at h b
theorem Rope.ilt (o:Rope s w R) {l:Nat} (h:l < w.length) (b:Bool):R.idxOf (l,b) < R.length:=o.code.ilt h b
theorem nx_mem {n:Nat} (o:Code n R):∀ x∈sds R.length,nx R x∈sds R.length:=by
 rintro ⟨g,b⟩ hx
 rw [mem_sds] at hx ⊢
 cases b with
 | true=>
  simp only [nx]
  split
  ·rename_i l e;have:=o.ilt (o.lt e).1 false;simp;exact o44 this
  ·rename_i l e;have:=o.ilt (o.lt e).1 true;simp;exact o47 this
  ·split<;>simp at*<;> (first | exact o49 (by assumption) | exact o52 hx)
 | false=>
  cases g with
  | zero=>simp [nx]
  | succ k=>
   simp only [nx]
   split
   ·rename_i l e;have:=o.ilt (o.lt e).1 false;simp;exact o47 this
   ·rename_i l e;have:=o.ilt (o.lt e).1 true;simp;exact o44 this
   ·simp at *;exact o57 hx
theorem pv_nx {n:Nat} (o:Code n R):∀ x∈sds R.length,pvv R (nx R x)=x:=by
 rintro ⟨g,b⟩ hx
 rw [mem_sds] at hx
 cases b with
 | true=>
  simp only [nx]
  split
  ·rename_i l e
   simp only [pvv];rw [o.at (o.lt e).1 false];simp [idx_at o.nd e]
  ·rename_i l e
   simp only [pvv];rw [o.at (o.lt e).1 true];simp [idx_at o.nd e]
  ·rename_i e
   have:=List.getElem?_eq_none_iff.1 e
   split
   ·rename_i h;simp [pvv,e]
   ·rename_i h;simp [pvv,e,h]
 | false=>
  cases g with
  | zero=>simp [nx,pvv]
  | succ k=>
   simp only [nx]
   split
   ·rename_i l e
    simp only [pvv];rw [o.at (o.lt e).1 false];simp [idx_at o.nd e]
   ·rename_i l e
    simp only [pvv];rw [o.at (o.lt e).1 true];simp [idx_at o.nd e]
   ·rename_i e
    have:=List.getElem?_eq_none_iff.1 e
    simp at hx
    have hk:k=R.length:=by exact o54 this hx
    simp only [pvv,e];simp [hk]
noncomputable def cl (s:Nat) (w:List Nat) (R:List (Nat×Bool)) (x:Nat×Bool):Nat:=
 let y:=(R[if x.1 < R.length then x.1 else 0]?).getD (0,true)
 reg s w (pB w y+(if x.2 then 1 else 0)) y.1
theorem cl_at {g l:Nat} {b c:Bool} (e:R[g]?=some (l,c)):cl s w R (g,b)=reg s w (pB w (l,c)+(if b then 1 else 0)) l:=by
 have:=(List.getElem?_eq_some_iff.1 e).1
 simp only [cl,this,if_true,e,Option.getD_some]
theorem cl_out {g:Nat} {b:Bool} (e:R.length<=g):cl s w R (g,b)=cl s w R (0,b):=by
 have:¬ g < R.length:=by exact o43 e
 simp [cl,this]
theorem pB_lt (o:Rope s w R) {l:Nat} (h:l < w.length) (b:Bool):pB w (l,b) < s:=by
 have:=o.hw l h
 unfold pB;simp;split<;>(first | exact o45 this | exact o46 this)
theorem pA_lt (o:Rope s w R) {l:Nat} (h:l < w.length) (b:Bool):pA w (l,b) < s:=by
 have:=o.hw l h
 unfold pA;simp;split<;>(first | exact o46 this | exact o45 this)
theorem cl_after (o:Rope s w R) {g l:Nat} {b c:Bool} (e:R[g]?=some (l,c)):cl s w R (g+1,b)=reg s w (pA w (l,c)+(if b then 1 else 0)) (l+1):=by
 have h1:=o.lt e
 have h2:=o.suc g _ e
 have h3:=pA_lt o h1.1 c
 have h4:l+1<=w.length:=h1.1
 have h5:cl s w R (g+1,b)=cl s w R ((g+1) % R.length,b):=by
  by_cases h:g+1 < R.length
  ·rw [Nat.mod_eq_of_lt h]
  ·have:g+1=R.length:=by exact o51 h1.2 h
   rw [this,Nat.mod_self];exact cl_out (Nat.le_refl _)
 rw [h5]
 have h6:np w (pA w (l,c)) (l+1)=(nt w (pA w (l,c)) (l+1),col w (nt w (pA w (l,c)) (l+1))==pA w (l,c)):=rfl
 simp only at h2
 rw [h6] at h2
 rw [cl_at h2,<-h6,pB_np o h3 h4]
 exact (reg_nt o h3 h4 (by cases b<;>simp)).symm
theorem cl_nx (o:Rope s w R) {x:Nat×Bool} (hx:x∈sds R.length) (h1:x≠(R.length+1,true)) (h2:x≠(0,false)):cl s w R (nx R x)=cl s w R x:=by
 obtain ⟨g,b⟩:=x
 rw [mem_sds] at hx
 cases b with
 | true=>
  simp only [nx]
  split
  ·rename_i l e
   rw [cl_at e,cl_at (o.at (o.lt e).1 false)];simp [pB]
  ·rename_i l e
   rw [cl_at e,cl_after o (o.at (o.lt e).1 true)];simp [pB,pA]
   exact (reg_next (o.lt e).1 (by exact o50)).symm
  ·rename_i e
   have:=List.getElem?_eq_none_iff.1 e
   split
   ·rw [cl_out (by exact o53 this),cl_out (g:=g) (by exact o55 this)]
   ·exfalso;apply h1;simp at hx;simp;exact o58 hx this (by assumption)
 | false=>
  cases g with
  | zero=>exact absurd rfl h2
  | succ k=>
   simp only [nx]
   split
   ·rename_i l e
    rw [cl_after o e,cl_after o (o.at (o.lt e).1 false)];simp [pA]
   ·rename_i l e
    rw [cl_after o e,cl_at (o.at (o.lt e).1 true)];simp [pA,pB]
    exact reg_next (o.lt e).1 (by exact o61)
   ·rename_i e
    have:=List.getElem?_eq_none_iff.1 e
    simp at hx
    rw [cl_out (by exact o55 this),cl_out (g:=k+1) (by exact o53 this)]
theorem Rope.pos (o:Rope s w R):0 < R.length:=by
 have:=o.hs
 obtain ⟨l,hl,-⟩:=o.hc 0 (by exact o48 this)
 exact List.length_pos_of_mem ((o.mem l true).2 hl)
theorem Rope.head (o:Rope s w R):∃ l b,R[0]?=some (l,b):=⟨R[0]'o.pos |>.1,R[0]'o.pos |>.2,by rw [List.getElem?_eq_getElem o.pos]⟩
theorem cut_ne (o:Rope s w R):cl s w R (0,true)≠cl s w R (0,false):=by
 obtain ⟨l,b,e⟩:=o.head
 rw [cl_at e,cl_at e]
 have:=reg_ne o (pB_lt o (o.lt e).1 b) (Nat.le_of_lt (o.lt e).1)
 simpa using this.symm
theorem cut_reach (o:Rope s w R):Reach (nx R) (0,true) (R.length+1,true):=by
 apply Classical.byContradiction
 intro hn
 have h0:((0,true):Nat×Bool)∈sds R.length:=mem_sds.2 (by simp)
 have key:∀ j,cl s w R (itr (nx R) j (0,true))=cl s w R (0,true):=by
  intro j
  induction j with
  | zero=>rfl
  | succ j ih=>
   simp only [itrS]
   rw [cl_nx o (itr_mem (nx_mem o.code) h0 j) (fun e=>hn ⟨j,e⟩) (fun e=>by
    rw [e] at ih;exact cut_ne o ih.symm),ih]
 obtain ⟨k,hk,e⟩:=period (nx_mem o.code) (pv_nx o.code) h0
 obtain ⟨k,rfl⟩:∃ j,k=j+1:=⟨k-1,by exact o56 hk⟩
 have h1:=pv_nx o.code _ (itr_mem (nx_mem o.code) h0 k)
 simp only [itrS] at e
 rw [e] at h1
 have h2:=key k
 rw [<-h1] at h2
 exact cut_ne o (by simpa [pvv] using h2.symm)
noncomputable def Eqv (R:List (Nat×Bool)) (x y:Nat×Bool):Prop:=Reach (nx R) x y/\Reach (nx R) y x
theorem Eqv.refl (x:Nat×Bool):Eqv R x x:=⟨.refl _,.refl _⟩
theorem Eqv.symm {x y:Nat×Bool} (h:Eqv R x y):Eqv R y x:=⟨h.2,h.1⟩
theorem Eqv.trans {x y z:Nat×Bool} (h:Eqv R x y) (k:Eqv R y z):Eqv R x z:=⟨h.1.trans k.1,k.2.trans h.2⟩
theorem Eqv.of (o:Rope s w R) {x y:Nat×Bool} (hx:x.1 < R.length+2) (r:Reach (nx R) x y):Eqv R x y:=⟨r,r.symm (nx_mem o.code) (pv_nx o.code) (mem_sds.2 hx)⟩
theorem Eqv.step (o:Rope s w R) {x y:Nat×Bool} (hx:x.1 < R.length+2) (e:nx R x=y):Eqv R x y:=.of o hx (e ▸ .step x)
theorem e_last (o:Rope s w R) (b:Bool):Eqv R (R.length+1,b) (R.length,b):=by
 cases b with
 | true=>exact (Eqv.step o (by simp) (by simp [nx])).symm
 | false=>exact Eqv.step o (by simp) (by simp [nx])
theorem e_ud (o:Rope s w R):Eqv R (0,false) (0,true):=.step o (by simp) (by simp [nx])
theorem e_cut (o:Rope s w R):∀ b,Eqv R (R.length,b) (0,b):=by
 have h1:Eqv R (0,true) (R.length+1,true):=.of o (by simp) (cut_reach o)
 have h2:Eqv R (R.length+1,true) (R.length+1,false):=.step o (by simp) (by simp [nx])
 intro b
 cases b with
 | true=>exact (h1.trans (e_last o true)).symm
 | false=>exact ((e_last o false).symm.trans (h2.symm.trans h1.symm)).trans (e_ud o).symm
noncomputable def gam (w:List Nat) (R:List (Nat×Bool)) (p l:Nat):Nat:=R.idxOf (np w p l)
theorem e_after (o:Rope s w R) {l:Nat} (hl:l < w.length) (b c:Bool):Eqv R (R.idxOf (l,b)+1,c) (gam w R (pA w (l,b)) (l+1),c):=by
 have h1:=o.at hl b
 have h2:=o.suc _ _ h1
 have h3:=o.ilt hl b
 have h4:=idx_at o.nd h2
 have h5:gam w R (pA w (l,b)) (l+1)=(R.idxOf (l,b)+1) % R.length:=h4
 rw [h5]
 by_cases h:R.idxOf (l,b)+1 < R.length
 ·rw [Nat.mod_eq_of_lt h];exact .refl _
 ·have:R.idxOf (l,b)+1=R.length:=by exact o51 h3 h
  rw [this,Nat.mod_self];exact e_cut o c
theorem e_u (o:Rope s w R) {p l:Nat} (hp:p < s) (hl:l < w.length) (h:col w l≠p):Eqv R (gam w R p l,true) (gam w R p (l+1),true):=by
 by_cases h2:col w l+1=p
 ·subst h2
  have e1:gam w R (col w l+1) l=R.idxOf (l,false):=by unfold gam;rw [np_left hl]
  have h3:=e_after o hl true true
  rw [show pA w (l,true)=col w l+1 by simp [pA]] at h3
  refine Eqv.trans ?_ h3
  rw [e1]
  exact .step o (by have:=o.ilt hl false;simp;exact o44 this) (by simp only [nx];rw [o.at hl false])
 ·unfold gam;rw [np_next hl h h2];exact .refl _
theorem e_d (o:Rope s w R) {p l:Nat} (hp:p < s) (hl:l < w.length) (h:col w l+1≠p):Eqv R (gam w R p l,false) (gam w R p (l+1),false):=by
 by_cases h2:col w l=p
 ·subst h2
  have e1:gam w R (col w l) l=R.idxOf (l,true):=by unfold gam;rw [np_right hl]
  have h3:=e_after o hl false false
  rw [show pA w (l,false)=col w l by simp [pA]] at h3
  refine Eqv.trans ?_ h3
  rw [e1]
  exact (Eqv.step o (by have:=o.ilt hl false;simp;exact o47 this) (by simp only [nx];rw [o.at hl false])).symm
 ·unfold gam;rw [np_next hl h2 h];exact .refl _
noncomputable def can (s:Nat) (w:List Nat) (R:List (Nat×Bool)) (v:Nat):Nat×Bool:=
 if v < w.length then (R.idxOf (v,true),true) else if v=w.length then (gam w R 0 0,false) else (gam w R (s-1) 0,true)
theorem u_can (o:Rope s w R) {p l:Nat} (hp:p < s) (hl:l < w.length):Eqv R (gam w R p l,true) (can s w R (reg s w (p+1) l)):=by
 have hs:=o.hs
 by_cases h:p+1=s
 ·have e:reg s w (p+1) l=w.length+1:=by unfold reg;simp [h];exact o36 hp
  have e2:p=s-1:=by exact o64 h
  rw [e];simp only [can];rw [if_neg (by exact o68),if_neg (by exact o61),<-e2]
  refine all_rel (rel:=Eqv R) Eqv.refl Eqv.trans (n:=w.length) (h:=fun k=>(gam w R p k,true)) ?_ ?_ (Nat.le_of_lt hl)
  ·intro i hi;exact e_u o hp hi (by have:=o.hw i hi;exact o69 h this)
  ·simp only [gam];rw [np_wrap];exact .refl _
 ·have h1:=reg_spec o (r:=p+1) (l:=l) (by exact o23) (by exact o41 hp h) (Nat.le_of_lt hl)
  have h2:Eqv R (gam w R p l,true) (gam w R p (reg s w (p+1) l),true):=by
   have:reg s w (p+1) l=cfn (fun k=>col w k+1==p+1) w.length l:=by unfold reg;rw [if_neg (by exact o23),if_neg h]
   rw [this]
   refine cfn_rel (rel:=Eqv R) Eqv.refl Eqv.trans ?_ (h:=fun k=>(gam w R p k,true)) ?_ ?_ (Nat.le_of_lt hl)
   ·obtain ⟨k,hk,e⟩:=o.hc p (by exact o41 hp h);exact ⟨k,hk,by simp [e]⟩
   ·intro i hi hP;exact e_u o hp hi (by simpa using hP)
   ·simp only [gam];rw [np_wrap];exact .refl _
  generalize reg s w (p+1) l=v at *
  have e3:gam w R p v=R.idxOf (v,true):=by
   have:p=col w v:=by exact o78 h1.2
   unfold gam;rw [this,np_right h1.1]
  rw [e3] at h2
  simp only [can];rw [if_pos h1.1];exact h2
theorem d_can (o:Rope s w R) {p l:Nat} (hp:p < s) (hl:l < w.length):Eqv R (gam w R p l,false) (can s w R (reg s w p l)):=by
 have hs:=o.hs
 by_cases h:p=0
 ·subst h
  have e:reg s w 0 l=w.length:=by simp [reg]
  rw [e];unfold can;rw [if_neg (by exact o59),if_pos rfl]
  refine all_rel (rel:=Eqv R) Eqv.refl Eqv.trans (n:=w.length) (h:=fun k=>(gam w R 0 k,false)) ?_ ?_ (Nat.le_of_lt hl)
  ·intro i hi;exact e_d o hp hi (by exact o23)
  ·simp only [gam];rw [np_wrap];exact .refl _
 ·have h1:=reg_spec o (r:=p) (l:=l) h hp (Nat.le_of_lt hl)
  have h2:Eqv R (gam w R p l,false) (gam w R p (reg s w p l),false):=by
   have:reg s w p l=cfn (fun k=>col w k+1==p) w.length l:=by unfold reg;rw [if_neg h,if_neg (by exact o25 hp)]
   rw [this]
   refine cfn_rel (rel:=Eqv R) Eqv.refl Eqv.trans ?_ (h:=fun k=>(gam w R p k,false)) ?_ ?_ (Nat.le_of_lt hl)
   ·obtain ⟨k,hk,e⟩:=o.hc (p-1) (by exact o31 hp hs);exact ⟨k,hk,by simp;exact o37 h e⟩
   ·intro i hi hP;exact e_d o hp hi (by simpa using hP)
   ·simp only [gam];rw [np_wrap];exact .refl _
  generalize reg s w p l=v at *
  have e3:gam w R p v=R.idxOf (v,false):=by
   have:p=col w v+1:=by exact o75 h1.2
   unfold gam;rw [this,np_left h1.1]
  rw [e3] at h2
  simp only [can];rw [if_pos h1.1]
  refine h2.trans (Eqv.symm ?_)
  exact .step o (by have:=o.ilt h1.1 true;simp;exact o44 this) (by simp only [nx];rw [o.at h1.1 true])
theorem all_can (o:Rope s w R) {x:Nat×Bool} (hx:x∈sds R.length):Eqv R x (can s w R (cl s w R x)):=by
 have main:∀ {g:Nat} {b:Bool},g < R.length->Eqv R (g,b) (can s w R (cl s w R (g,b))):=by
  intro g b hg
  have e:R[g]?=some (R[g].1,R[g].2):=by rw [List.getElem?_eq_getElem hg]
  generalize R[g].1=l at e
  generalize R[g].2=c at e
  have h1:=o.lt e
  have h2:=pB_lt o h1.1 c
  have h3:gam w R (pB w (l,c)) l=g:=by
   have:np w (pB w (l,c)) l=(l,c):=by
    cases c with
    | true=>rw [show pB w (l,true)=col w l by simp [pB]];exact np_right h1.1
    | false=>rw [show pB w (l,false)=col w l+1 by simp [pB]];exact np_left h1.1
   unfold gam;rw [this];exact idx_at o.nd e
  rw [cl_at e]
  cases b with
  | true=>have:=u_can o h2 h1.1;rw [h3] at this;simpa using this
  | false=>have:=d_can o h2 h1.1;rw [h3] at this;simpa using this
 obtain ⟨g,b⟩:=x
 rw [mem_sds] at hx
 by_cases h1:g < R.length
 ·exact main h1
 ·rw [cl_out (by exact o62 h1)]
  refine Eqv.trans ?_ (main o.pos)
  by_cases h2:g=R.length
  ·subst h2;exact e_cut o b
  ·have:g=R.length+1:=by simp at hx;exact o67 hx h1 h2
   subst this;exact (e_last o b).trans (e_cut o b)
noncomputable def lam (s:Nat) (w:List Nat) (R:List (Nat×Bool)) (x:Nat×Bool):Nat:=
 if cl s w R x=cl s w R (0,false) then cl s w R (0,true) else cl s w R x
theorem lam_nx (o:Rope s w R) {x:Nat×Bool} (hx:x∈sds R.length):lam s w R (nx R x)=lam s w R x:=by
 by_cases h1:x=(R.length+1,true)
 ·subst h1
  have e1:nx R (R.length+1,true)=(R.length+1,false):=by simp [nx]
  rw [e1];unfold lam
  rw [cl_out (g:=R.length+1) (b:=false) (by exact o60),cl_out (g:=R.length+1) (b:=true) (by exact o60)];simp
 ·by_cases h2:x=(0,false)
  ·subst h2
   have e1:nx R (0,false)=(0,true):=by simp [nx]
   rw [e1];unfold lam;rw [if_pos (c:=cl s w R (0,false)=cl s w R (0,false)) rfl];split<;>rfl
  ·simp only [lam];rw [cl_nx o hx h1 h2]
theorem lam_reach (o:Rope s w R) {x y:Nat×Bool} (hx:x∈sds R.length) (hy:y∈sds R.length):lam s w R x=lam s w R y↔Reach (nx R) x y:=by
 constructor
 ·intro e
  have a:=all_can o hx
  have b:=all_can o hy
  have c:=all_can o (x:=(0,true)) (mem_sds.2 (by simp))
  have d:=all_can o (x:=(0,false)) (mem_sds.2 (by simp))
  have k:=e_ud o
  have m:Eqv R (can s w R (cl s w R (0,true))) (can s w R (cl s w R (0,false))):=c.symm.trans (k.symm.trans d)
  unfold lam at e
  split at e<;>split at e
  ·rename_i h1 h2;rw [h1] at a;rw [h2] at b;exact (a.trans b.symm).1
  ·rename_i h1 h2;rw [h1] at a;rw [<-e] at b;exact (a.trans (m.symm.trans b.symm)).1
  ·rename_i h1 h2;rw [e] at a;rw [h2] at b;exact (a.trans (m.trans b.symm)).1
  ·rename_i h1 h2;rw [e] at a;exact (a.trans b.symm).1
 ·rintro ⟨k,rfl⟩
  induction k with
  | zero=>rfl
  | succ k ih=>
   have hk:=itr_mem (nx_mem o.code) hx k
   simp only [itrS];rw [lam_nx o hk]
   exact ih hk
theorem cl_le (o:Rope s w R) {x:Nat×Bool} (_:x∈sds R.length):cl s w R x<=w.length+1:=by
 obtain ⟨g,b⟩:=x
 have main:∀ {g:Nat},g < R.length->cl s w R (g,b)<=w.length+1:=by
  intro g hg
  have e:R[g]?=some (R[g].1,R[g].2):=by rw [List.getElem?_eq_getElem hg]
  rw [cl_at e]
  have h1:=o.lt e
  have h2:=pB_lt o h1.1 R[g].2
  exact reg_le o (by cases b<;>simp<;>(first | exact o63 h2 | exact o65 h2)) (Nat.le_of_lt h1.1)
 by_cases h:g < R.length
 ·exact main h
 ·rw [cl_out (by exact o62 h)];exact main o.pos
theorem lam_range (o:Rope s w R) (v:Nat):(∃ x∈sds R.length,lam s w R x=v)↔v<=w.length+1/\v≠cl s w R (0,false):=by
 constructor
 ·rintro ⟨x,hx,rfl⟩
  unfold lam
  split
  ·exact ⟨cl_le o (mem_sds.2 (by simp)),cut_ne o⟩
  ·rename_i h;exact ⟨cl_le o hx,h⟩
 ·rintro ⟨h1,h2⟩
  have:∃ x∈sds R.length,cl s w R x=v:=by
   have hs:=o.hs
   by_cases a:v < w.length
   ·refine ⟨(R.idxOf (v,true),true),mem_sds.2 (by have:=o.ilt a true;simp;exact o44 this),?_⟩
    rw [cl_at (o.at a true)];simp [pB];exact reg_here o a
   ·by_cases b:v=w.length
    ·obtain ⟨l,hl,e⟩:=o.hc 0 (by exact o48 hs)
     refine ⟨(R.idxOf (l,true),false),mem_sds.2 (by have:=o.ilt hl true;simp;exact o44 this),?_⟩
     rw [cl_at (o.at hl true)];simp [pB,e,reg,b]
    ·obtain ⟨l,hl,e⟩:=o.hc (s-2) (by exact o72 hs)
     refine ⟨(R.idxOf (l,false),true),mem_sds.2 (by have:=o.ilt hl false;simp;exact o44 this),?_⟩
     rw [cl_at (o.at hl false)];simp [pB,e]
     rw [show s-2+1+1=s by exact o77 hs]
     unfold reg;rw [if_neg (by exact o79 hs),if_pos rfl];exact o80 h1 a b
  obtain ⟨x,hx,e⟩:=this
  refine ⟨x,hx,?_⟩
  unfold lam;rw [if_neg (by rw [e];exact h2),e]
theorem count_faces (o:Rope s w R) {D:List Nat} (nd:D.Nodup) (hD:∀ v,v∈D↔∃ x∈sds R.length,lam s w R x=v):D.length=w.length+1:=by
 have hle:cl s w R (0,false)<=w.length+1:=cl_le o (mem_sds.2 (by simp))
 have h1:(cl s w R (0,false)::D).Nodup:=List.nodup_cons.2 ⟨fun h=>((lam_range o _).1 ((hD _).1 h)).2 rfl,nd⟩
 have h2:=nodup_le (m:=List.range (w.length+2)) h1 (fun v hv=>by
  rw [List.mem_range]
  rcases List.mem_cons.1 hv with rfl | h
  ·exact o66 hle
  ·have:=(lam_range o _).1 ((hD _).1 h);exact o66 this.1)
 have h3:=nodup_le (l:=List.range (w.length+2)) (m:=cl s w R (0,false)::D) List.nodup_range (fun v hv=>by
  rw [List.mem_range] at hv
  by_cases e:v=cl s w R (0,false)
  ·simp [e]
  ·exact List.mem_cons_of_mem _ ((hD v).2 ((lam_range o v).2 ⟨by exact o70 hv,e⟩)))
 simp at h2 h3;exact o73 h2 h3
theorem code_len {m:Nat} (o:Code m R):R.length=2*m:=by
 let A:List (Nat×Bool):=(List.range m).flatMap fun l=>[(l,true),(l,false)]
 have hA:∀ x,x∈A↔x.1 < m:=by
  rintro ⟨l,b⟩;simp [A];constructor
  ·rintro ⟨a,h,⟨rfl,_⟩ | ⟨rfl,_⟩⟩<;>exact h
  ·intro h;exact ⟨l,h,by cases b<;>simp⟩
 have hl:∀ n,((List.range n).flatMap fun l=>[((l:Nat),true),(l,false)]).length=2*n:=by
  intro n;induction n with
  | zero=>rfl
  | succ n ih=>rw [List.range_succ,List.flatMap_append,List.length_append,ih];simp;exact o71
 have hn:∀ n,((List.range n).flatMap fun l=>[((l:Nat),true),(l,false)]).Nodup:=by
  intro n;induction n with
  | zero=>simp
  | succ n ih=>
   rw [List.range_succ,List.flatMap_append,List.nodup_append]
   refine ⟨ih,by simp,?_⟩
   intro a ha b hb e
   subst e
   simp at ha hb
   obtain ⟨k,hk,h⟩:=ha
   rcases hb with rfl | rfl<;>simp at h<;>exact o74 hk h
 have h1:=nodup_le o.nd (m:=A) (fun x hx=>(hA x).2 ((o.mem x.1 x.2).1 hx))
 have h2:=nodup_le (hn m) (m:=R) (fun x hx=>(o.mem x.1 x.2).2 ((hA x).1 hx))
 rw [hl] at h2
 have:A.length=2*m:=hl _
 exact o76 h1 h2 this
theorem rope_len (o:Rope s w R):R.length=2*w.length:=code_len o.code
end
end Mine.Internal
end
section
namespace Mine.Internal
section
variable {s:Nat} {w:List Nat} {R:List (Nat×Bool)}
theorem rot_get {α:Type} (R:List α) (k g:Nat) (hk:k<=R.length) (hg:g < R.length):(R.drop k++R.take k)[g]?=R[(g+k) % R.length]?:=by
 by_cases h:g < R.length-k
 ·rw [List.getElem?_append_left (by simp;exact o81 h),List.getElem?_drop,Nat.mod_eq_of_lt (by exact o82 h),Nat.add_comm]
 ·rw [List.getElem?_append_right (by simp;exact o83 h),List.length_drop,List.getElem?_take,if_pos (by exact o87 hg h)]
  congr 1
  rw [Nat.mod_eq_sub_mod (by exact o83 h),Nat.mod_eq_of_lt (by exact o92 hk hg)];exact o106 hk
theorem Rope.rot (o:Rope s w R) (k:Nat) (hk:k<=R.length):Rope s w (R.drop k++R.take k) where
 hs:=o.hs
 hw:=o.hw
 hc:=o.hc
 nd:=by
  have:=o.nd
  rw [<-List.take_append_drop k R,List.nodup_append] at this
  rw [List.nodup_append]
  exact ⟨this.2.1,this.1,fun a ha b hb e=>this.2.2 b hb a ha e.symm⟩
 mem:=fun l b=>by
  rw [<-o.mem l b]
  have:(l,b)∈R↔(l,b)∈R.take k++R.drop k:=by rw [List.take_append_drop]
  rw [this,List.mem_append,List.mem_append,Or.comm]
 suc:=fun g x e=>by
  have hm:(R.drop k++R.take k).length=R.length:=by simp;exact o84
  have hg:g < R.length:=by rw [<-hm];exact (List.getElem?_eq_some_iff.1 e).1
  rw [hm,rot_get R k _ hk (Nat.mod_lt _ o.pos)]
  rw [rot_get R k g hk hg] at e
  have:=o.suc _ _ e
  rw [<-this]
  congr 1
  rw [Nat.mod_add_mod,Nat.mod_add_mod];congr 1;exact o1
end
noncomputable def stp (i p:Nat):Nat:=if p=i then i+1 else if p=i+1 then i else p
noncomputable def fin:List Nat->Nat->Nat
 | [],p=>p
 | i::v,p=>fin v (stp i p)
theorem finN {p:Nat}:fin [] p=p:=rfl
theorem finC {i p:Nat} {v:List Nat}:fin (i::v) p=fin v (stp i p):=rfl
noncomputable def wlk:List Nat->Nat->Nat->List (Nat×Bool)
 | [],_,_=>[]
 | i::v,l,p=>(if p=i then [(l,true)] else if p=i+1 then [(l,false)] else [])++wlk v (l+1) (stp i p)
theorem wlkN {l p:Nat}:wlk [] l p=[]:=rfl
theorem wlkC {i l p:Nat} {v:List Nat}:wlk (i::v) l p=(if p=i then [(l,true)] else if p=i+1 then [(l,false)] else [])++wlk v (l+1) (stp i p):=rfl
noncomputable def rnd (w:List Nat):Nat->Nat->List (Nat×Bool)
 | 0,_=>[]
 | t+1,p=>wlk w 0 p++rnd w t (fin w p)
theorem rnd0 {w:List Nat} {p:Nat}:rnd w 0 p=[]:=rfl
theorem rndS {w:List Nat} {t p:Nat}:rnd w (t+1) p=wlk w 0 p++rnd w t (fin w p):=rfl
theorem stp_inj {i p q:Nat} (h:stp i p=stp i q):p=q:=by
 unfold stp at h;split at h<;>split at h<;>(try split at h)<;>(try split at h)<;>(first | exact o90 (by assumption) (by assumption) | exact o91 h | exact o93 (by assumption) h | exact o94 h | exact o97 (by assumption) (by assumption) | exact o100 (by assumption) h | exact o105 (by assumption) h | exact o108 (by assumption) h | exact o103 h)
theorem fin_inj:∀ {v:List Nat} {p q:Nat},fin v p=fin v q->p=q
 | [],_,_,h=>h
 | _::v,_,_,h=>stp_inj (fin_inj (v:=v) h)
theorem stp_lt {s i p:Nat} (hi:i+1 < s) (hp:p < s):stp i p < s:=by
 unfold stp;split;exact o46 hi;split<;>(first | exact o85 hi | exact o88 hp)
theorem fin_lt {s:Nat}:∀ {v:List Nat} {p:Nat},(∀ i∈v,i+1 < s)->p < s->fin v p < s
 | [],_,_,h=>h
 | i::v,_,hi,h=>fin_lt (v:=v) (fun j hj=>hi j (by simp [hj])) (stp_lt (hi i (by simp)) h)
noncomputable def Ch (w:List Nat):Nat->Nat->List (Nat×Bool)->Nat->Prop
 | p,l,[],q=>np w p l=np w q 0
 | p,l,x::L,q=>x=np w p l/\Ch w (pA w x) (x.1+1) L q
theorem ChN {w:List Nat} {p l q:Nat}:Ch w p l [] q=(np w p l=np w q 0):=rfl
theorem Ch.congr {w:List Nat} {p l p' l' q:Nat} {L:List (Nat×Bool)} (e:np w p l=np w p' l') (h:Ch w p l L q):Ch w p' l' L q:=by
 cases L with
 | nil=>exact e.symm.trans h
 | cons x L=>exact ⟨h.1.trans e,h.2⟩
theorem Ch.append {w:List Nat} {q q':Nat} {L':List (Nat×Bool)} (h':Ch w q 0 L' q'):∀ {p l:Nat} {L:List (Nat×Bool)},Ch w p l L q->Ch w p l (L++L') q'
 | _,_,[],h=>Ch.congr h.symm h'
 | _,_,_::_,h=>⟨h.1,Ch.append h' h.2⟩
theorem ch_wlk {w:List Nat}:∀ (k:Nat) {l p:Nat},w.length=l+k->Ch w p l (wlk (w.drop l) l p) (fin (w.drop l) p)
 | 0,l,p,h=>by
  rw [List.drop_eq_nil_of_le (by exact o86 h)]
  simp only [wlkN,finN,ChN]
  rw [show l=w.length by exact o96 h];exact np_wrap
 | k+1,l,p,h=>by
  have hl:l < w.length:=by exact o98 h
  have hd:w.drop l=col w l::w.drop (l+1):=by
   rw [List.drop_eq_getElem_cons hl];simp [col,List.getD,hl]
  rw [hd]
  simp only [wlkC,finC]
  have ih:=ch_wlk (w:=w) k (l:=l+1) (p:=stp (col w l) p) (by exact o102 h)
  by_cases h1:p=col w l
  ·rw [if_pos h1];subst h1
   refine ⟨(np_right hl).symm,?_⟩
   have:stp (col w l) (col w l)=pA w (l,true):=by simp [stp,pA]
   rw [this] at ih ⊢;exact ih
  ·rw [if_neg h1]
   by_cases h2:p=col w l+1
   ·rw [if_pos h2];subst h2
    refine ⟨(np_left hl).symm,?_⟩
    have:stp (col w l) (col w l+1)=pA w (l,false):=by simp [stp,pA]
    rw [this] at ih ⊢;exact ih
   ·rw [if_neg h2]
    have:stp (col w l) p=p:=by simp [stp,h1,h2]
    rw [this] at ih ⊢
    exact Ch.congr (np_next hl (by exact o114 h1) (by exact o121 h2)).symm ih
theorem itr_r {α:Type} (f:α->α) (k:Nat) (x:α):itr f (k+1) x=itr f k (f x):=by
 have:=itr_add f k 1 x;simpa [itr0,itrS] using this
theorem ch_rnd {w:List Nat}:∀ (t:Nat) {p:Nat},Ch w p 0 (rnd w t p) (itr (fin w) t p)
 | 0,_=>rfl
 | t+1,p=>by
  rw [itr_r]
  have:=ch_wlk (w:=w) w.length (l:=0) (p:=p) (by exact o89)
  simp only [List.drop_zero] at this
  exact (ch_rnd t).append this
theorem Ch.next {w:List Nat} {q:Nat}:∀ {p l:Nat} {L:List (Nat×Bool)},Ch w p l L q->∀ g x,L[g]?=some x->(∀ y,L[g+1]?=some y->y=np w (pA w x) (x.1+1))/\(L[g+1]?=none->np w (pA w x) (x.1+1)=np w q 0)
 | _,_,[],_,g,x,e=>by simp at e
 | p,l,z::L,h,g,x,e=>by
  cases g with
  | succ g=>simpa using Ch.next h.2 g x (by simpa using e)
  | zero=>
   simp at e;subst e
   cases L with
   | nil=>exact ⟨by simp,fun _=>h.2⟩
   | cons y L=>refine ⟨fun y' e=>?_,by simp⟩;simp at e;subst e;exact h.2.1
theorem suc_of {w:List Nat} {R:List (Nat×Bool)} (h:Ch w 0 0 R 0) (g:Nat) (x:Nat×Bool) (e:R[g]?=some x):R[(g+1) % R.length]?=some (np w (pA w x) (x.1+1)):=by
 have hg:=(List.getElem?_eq_some_iff.1 e).1
 have hn:=h.next g x e
 by_cases h1:g+1 < R.length
 ·rw [Nat.mod_eq_of_lt h1,List.getElem?_eq_getElem h1]
  rw [hn.1 _ (List.getElem?_eq_getElem h1)]
 ·rw [show g+1=R.length by exact o51 hg h1,Nat.mod_self]
  rw [hn.2 (by rw [List.getElem?_eq_none_iff];exact o95 h1)]
  cases R with
  | nil=>simp at hg
  | cons y R=>simp;exact h.1
theorem mem_wlk {l:Nat} {b:Bool}:∀ {v:List Nat} {l0 p:Nat},(l,b)∈wlk v l0 p↔∃ k,l=l0+k/\k < v.length/\fin (v.take k) p=v.getD k 0+(if b then 0 else 1)
 | [],l0,p=>by simp [wlkN]
 | i::v,l0,p=>by
  simp only [wlkC,List.mem_append]
  rw [mem_wlk]
  constructor
  ·rintro (h | ⟨k,h1,h2,h3⟩)
   ·refine ⟨0,?_,by simp,?_⟩
    ·split at h;simp at h;exact o99 h.1;split at h<;>simp at h;exact o99 h.1
    ·split at h
     ·simp at h;simp [finN,h];assumption
     ·split at h<;>simp at h
      simp [finN,h];assumption
   ·exact ⟨k+1,by exact o109 h1,by simp;exact o88 h2,by simpa [finN,finC] using h3⟩
  ·rintro ⟨k,h1,h2,h3⟩
   cases k with
   | zero=>
    left
    simp [finN] at h3
    cases b with
    | true=>simp at h3;simp [h3];exact o119 h1
    | false=>simp at h3;rw [if_neg (by exact o120 h3),if_pos h3];simp;exact o119 h1
   | succ k=>right;exact ⟨k,by exact o102 h1,by simpa using h2,by simpa [finN,finC] using h3⟩
theorem nd_wlk:∀ {v:List Nat} {l0 p:Nat},(wlk v l0 p).Nodup
 | [],_,_=>by simp [wlkN]
 | i::v,l0,p=>by
  simp only [wlkC]
  rw [List.nodup_append]
  refine ⟨by split;simp;split<;>simp,nd_wlk,?_⟩
  rintro ⟨a,b⟩ ha ⟨c,d⟩ hb e
  obtain ⟨k,h1,-⟩:=mem_wlk.1 hb
  have:a=l0:=by split at ha;simp at ha;exact o103 ha.1;split at ha<;>simp at ha;exact o103 ha.1
  simp at e;exact (o111 h1 this e.1).elim
theorem mem_rnd {w:List Nat} {x:Nat×Bool}:∀ {t p:Nat},x∈rnd w t p↔∃ k,k < t/\x∈wlk w 0 (itr (fin w) k p)
 | 0,_=>by simp [rnd0]
 | t+1,p=>by
  simp only [rndS,List.mem_append];rw [mem_rnd]
  constructor
  ·rintro (h | ⟨k,h1,h2⟩)
   ·exact ⟨0,by exact o101,h⟩
   ·exact ⟨k+1,by exact o104 h1,by rw [itr_r];exact h2⟩
  ·rintro ⟨k,h1,h2⟩
   cases k with
   | zero=>left;exact h2
   | succ k=>right;exact ⟨k,by exact o107 h1,by rw [itr_r] at h2;exact h2⟩
theorem nd_rnd {w:List Nat}:∀ {t p:Nat},(∀ i j,i < j->j < t->itr (fin w) i p≠itr (fin w) j p)->(rnd w t p).Nodup
 | 0,_,_=>by simp [rnd0]
 | t+1,p,h=>by
  simp only [rndS];rw [List.nodup_append]
  refine ⟨nd_wlk,nd_rnd (fun i j h1 h2=>?_),?_⟩
  ·have:=h (i+1) (j+1) (by exact o104 h1) (by exact o104 h2);rw [itr_r,itr_r] at this;exact this
  ·rintro ⟨l,b⟩ ha y hb rfl
   obtain ⟨k,hk,hb⟩:=mem_rnd.1 hb
   obtain ⟨i,e1,-,e2⟩:=mem_wlk.1 ha
   obtain ⟨j,e3,-,e4⟩:=mem_wlk.1 hb
   have:i=j:=by exact o118 e1 e3
   subst this
   have:=fin_inj (e2.trans e4.symm)
   refine h 0 (k+1) (by exact o101) (by exact o104 hk) ?_
   rw [itr_r];exact this
theorem full {s:Nat} {A:List Nat} (nd:A.Nodup) (h:∀ x∈A,x < s) (hl:A.length=s) {p:Nat} (hp:p < s):p∈A:=by
 apply Classical.byContradiction;intro hn
 have:=nodup_le (l:=p::A) (m:=List.range s) (List.nodup_cons.2 ⟨hn,nd⟩) (fun x hx=>by
  rcases List.mem_cons.1 hx with rfl | h'
  ·exact List.mem_range.2 hp
  ·exact List.mem_range.2 (h x h'))
 simp at this;exact (o110 hl this).elim
theorem fin_low {c:Nat}:∀ {v:List Nat} {p:Nat},c∉v->p<=c->fin v p<=c
 | [],_,_,h=>h
 | i::v,p,hv,h=>by
  simp at hv
  refine fin_low (v:=v) hv.2 ?_
  unfold stp;split;exact o113 h hv.1 (by assumption);split<;>(first | exact o116 h (by assumption) | exact o55 h)
theorem rope_of {s:Nat} {w:List Nat} (hs:2<=s) (hw:∀ i∈w,i+1 < s) (hd:((List.range s).map fun k=>itr (fin w) k 0).Nodup) (h0:itr (fin w) s 0=0):Rope s w (rnd w s 0):=by
 have hlt:∀ k,itr (fin w) k 0 < s:=fun k=>by
  induction k with
  | zero=>simp [itr0];exact o112 hs
  | succ k ih=>exact fin_lt hw ih
 have hne:∀ i j,i < j->j < s->itr (fin w) i 0≠itr (fin w) j 0:=by
  intro i j h1 h2
  rw [List.Nodup,List.pairwise_iff_getElem] at hd
  have:=hd i j (by simp;exact o117 h1 h2) (by simp;exact o88 h2) h1
  simpa using this
 have hcol:∀ l,l < w.length->col w l∈w:=fun l hl=>by simp [col,List.getD,hl]
 refine ⟨hs,fun l hl=>hw _ (hcol l hl),?_,nd_rnd hne,?_,suc_of (by have:=ch_rnd (w:=w) s (p:=0);rw [h0] at this;exact this)⟩
 ·intro c hc
  have:c∈w:=by
   apply Classical.byContradiction;intro hn
   have hle:∀ k,itr (fin w) k 0<=c:=fun k=>by
    induction k with
    | zero=>simp [itr0]
    | succ k ih=>exact fin_low hn ih
   have:=full hd (s:=s) (by simp;intro k _;exact hlt k) (by simp) (p:=c+1) hc
   simp at this
   obtain ⟨k,-,e⟩:=this
   have:=hle k;exact (o125 e this).elim
  obtain ⟨l,hl,e⟩:=List.getElem_of_mem this
  exact ⟨l,hl,by simp [col,List.getD,hl,e]⟩
 ·intro l b
  rw [mem_rnd]
  constructor
  ·rintro ⟨k,-,h⟩
   obtain ⟨i,e,h1,-⟩:=mem_wlk.1 h
   exact o128 e h1
  ·intro hl
   let A:=((List.range s).map fun k=>itr (fin w) k 0).map (fin (w.take l))
   have hA:A.Nodup:=by
    rw [List.Nodup,List.pairwise_map]
    exact hd.imp fun h e=>h (fin_inj e)
   have hA2:∀ x∈A,x < s:=by
    intro x hx
    simp [A] at hx
    obtain ⟨k,hk,rfl⟩:=hx
    exact fin_lt (fun i hi=>hw i (List.mem_of_mem_take hi)) (hlt k)
   have hp:col w l+(if b then 0 else 1) < s:=by
    have:=hw _ (hcol l hl);split<;>(first | exact o45 this | exact o46 this)
   have:=full hA hA2 (by simp [A]) hp
   simp [A] at this
   obtain ⟨k,hk,e⟩:=this
   exact ⟨k,hk,mem_wlk.2 ⟨l,by exact o89,hl,by rw [e];rfl⟩⟩
noncomputable def sw (i:Nat) (at_:List Nat):List Nat:=at_.take i++[at_.getD (i+1) 0,at_.getD i 0]++at_.drop (i+2)
noncomputable def heds (s:Nat) (at_:List Nat):List Nat:=
 (List.range s).foldl (fun hd pl=>hd.map fun h=>if h=hd.getD (at_.getD pl 0) 0 then hd.getD pl 0 else h) (List.range s)
noncomputable def clo (s:Nat):List Nat->List Nat->List Nat
 | [],_=>[]
 | k::ks,at_=>if (heds s at_).getD k 0≠(heds s at_).getD (k+1) 0 then k::clo s ks (sw k at_) else clo s ks at_
theorem cloN {s:Nat} {a:List Nat}:clo s [] a=[]:=rfl
theorem cloC {s k:Nat} {ks a:List Nat}:clo s (k::ks) a=if (heds s a).getD k 0≠(heds s a).getD (k+1) 0 then k::clo s ks (sw k a) else clo s ks a:=rfl
noncomputable def swAll (at_:List Nat) (w:List Nat):List Nat:=w.foldl (fun a i=>sw i a) at_
theorem sw_len {i:Nat} {a:List Nat} (h:i+1 < a.length):(sw i a).length=a.length:=by simp [sw];exact o123 h
theorem sw_get {i p:Nat} {a:List Nat} (h:i+1 < a.length):(sw i a)[stp i p]?=a[p]?:=by
 unfold sw stp
 by_cases h1:p=i
 ·subst h1;simp
  rw [List.getElem?_append_right (by simp;exact o122)]
  simp [show min p a.length=p by exact o124 h,List.getElem?_eq_getElem (show p < a.length by exact o85 h)]
 ·rw [if_neg h1]
  by_cases h2:p=i+1
  ·subst h2;simp
   rw [List.getElem?_append_right (by simp;exact o127)]
   simp [show min i a.length=i by exact o124 h,List.getElem?_eq_getElem h]
  ·rw [if_neg h2]
   by_cases h3:p < i
   ·rw [List.append_assoc,List.getElem?_append_left (by simp;exact o129 h h3),List.getElem?_take,if_pos h3]
   ·rw [List.getElem?_append_right (by simp;exact o130 h1 h2 h3),List.getElem?_drop]
    congr 1;simp;exact o131 h h1 h2 h3
theorem swAll_get {s:Nat}:∀ {w:List Nat} {a:List Nat} {p:Nat},(∀ i∈w,i+1 < s)->a.length=s->(swAll a w)[fin w p]?=a[p]?
 | [],_,_,_,_=>rfl
 | i::w,a,p,h,hl=>by
  have hi:=h i (by simp)
  have:=swAll_get (w:=w) (a:=sw i a) (p:=stp i p) (fun j hj=>h j (by simp [hj])) (by rw [sw_len (by exact o115 hl hi)];exact hl)
  show (swAll (sw i a) w)[fin w (stp i p)]?=_
  rw [this];exact sw_get (by exact o115 hl hi)
noncomputable def perms:Nat->List (List Nat)
 | 1=>[[0]]
 | 2=>[[0,1],[1,0]]
 | 3=>[[0,1,2],[0,2,1],[1,0,2],[1,2,0],[2,0,1],[2,1,0]]
 | 4=>[[0,1,2,3],[0,1,3,2],[0,2,1,3],[0,2,3,1],[0,3,1,2],[0,3,2,1],[1,0,2,3],[1,0,3,2],[1,2,0,3],[1,2,3,0],[1,3,0,2],[1,3,2,0],[2,0,1,3],[2,0,3,1],[2,1,0,3],[2,1,3,0],[2,3,0,1],[2,3,1,0],[3,0,1,2],[3,0,2,1],[3,1,0,2],[3,1,2,0],[3,2,0,1],[3,2,1,0]]
 | _=>[]
noncomputable def ring (s:Nat) (a:List Nat):Bool:=
 decide (((List.range s).map fun k=>itr (fun p=>a.idxOf p) k 0).Nodup)&&(itr (fun p=>a.idxOf p) s 0==0)&&decide a.Nodup&&a.length==s
theorem perms_sw:∀ s,s < 5->∀ a∈perms s,∀ i,i+1 < s->sw i a∈perms s:=by
 intro s hs a ha i hi
 have:∀ s,s < 5->∀ a∈perms s,∀ i,i < 4->i+1 < s->sw i a∈perms s:=by decide +kernel
 exact this s hs a ha i (by exact o132 hs hi) hi
theorem perms_clo:∀ s,s < 5->∀ a∈perms s,ring s (swAll a (clo s (List.range (s-1)) a))=true:=by decide +kernel
theorem range_perms:∀ s,0 < s->s < 5->List.range s∈perms s:=by
 have:∀ s,s < 5->0 < s->List.range s∈perms s:=by decide +kernel
 exact fun s h1 h2=>this s h2 h1
theorem perms_all {s:Nat} (hs:s < 5):∀ {w a:List Nat},(∀ i∈w,i+1 < s)->a∈perms s->swAll a w∈perms s
 | [],_,_,h=>h
 | i::w,a,hw,h=>perms_all (w:=w) hs (fun j hj=>hw j (by simp [hj])) (perms_sw s hs a h i (hw i (by simp)))
theorem clo_lt {s:Nat}:∀ {ks a:List Nat},(∀ k∈ks,k+1 < s)->∀ i∈clo s ks a,i+1 < s
 | [],_,_,i,h=>by simp [cloN] at h
 | k::ks,a,hk,i,h=>by
  simp only [cloC] at h
  split at h
  ·rcases List.mem_cons.1 h with rfl | h
   ·exact hk _ (by simp)
   ·exact clo_lt (fun j hj=>hk j (by simp [hj])) i h
  ·exact clo_lt (fun j hj=>hk j (by simp [hj])) i h
theorem closed_rope {s:Nat} (h2:2<=s) (h5:s < 5) {w:List Nat} (hw:∀ i∈w,i+1 < s):
  Rope s (w++clo s (List.range (s-1)) (swAll (List.range s) w)) (rnd (w++clo s (List.range (s-1)) (swAll (List.range s) w)) s 0):=by
 have ha:=perms_all h5 hw (range_perms s (by exact o112 h2) h5)
 have hc:=perms_clo s h5 _ ha
 have hlt:=clo_lt (s:=s) (ks:=List.range (s-1)) (a:=swAll (List.range s) w) (by simp;intro k hk;exact o126 hk)
 generalize clo s (List.range (s-1)) (swAll (List.range s) w)=c at *
 have hw':∀ i∈w++c,i+1 < s:=by
  intro i hi;rcases List.mem_append.1 hi with h | h;exact hw i h;exact hlt i h
 have e:swAll (swAll (List.range s) w) c=swAll (List.range s) (w++c):=by simp [swAll]
 rw [e] at hc
 simp [ring] at hc
 obtain ⟨⟨⟨h1,h0⟩,hnd⟩,hl⟩:=hc
 have hf:∀ p,p < s->fin (w++c) p=(swAll (List.range s) (w++c)).idxOf p:=by
  intro p hp
  have:=swAll_get (w:=w++c) (a:=List.range s) (p:=p) hw' (by simp)
  rw [List.getElem?_range hp] at this
  obtain ⟨hx,e⟩:=List.getElem?_eq_some_iff.1 this
  have h:=hnd.idxOf_getElem _ hx
  rw [e] at h;exact h.symm
 have hit:∀ k,itr (fin (w++c)) k 0=itr (fun p=>(swAll (List.range s) (w++c)).idxOf p) k 0/\itr (fin (w++c)) k 0 < s:=by
  intro k
  induction k with
  | zero=>exact ⟨rfl,by simp [itr0];exact o112 h2⟩
  | succ k ih=>refine ⟨?_,fin_lt hw' ih.2⟩;simp only [itrS];rw [hf _ ih.2,ih.1]
 refine rope_of h2 hw' ?_ ?_
 ·have:((List.range s).map fun k=>itr (fin (w++c)) k 0)=(List.range s).map fun k=>itr (fun p=>(swAll (List.range s) (w++c)).idxOf p) k 0:=List.map_congr_left fun k _=>(hit k).1
  rw [this];exact h1
 ·rw [(hit s).1];exact h0
end Mine.Internal
end
section
namespace Mine.Internal
noncomputable def rv (q:Nat->Nat) (sg:Nat->Int) (x:Nat×Bool):Int:=((q x.1:Int)+1)*(if x.2 then-sg x.1 else sg x.1)
noncomputable def Sg (sg:Nat->Int):Prop:=∀ l,sg l=1\/sg l=-1
noncomputable def absI (i:Int):Int:=if i < 0 then -i else i
section
variable {q:Nat->Nat} {sg:Nat->Int} (hsg:Sg sg) {x y:Nat×Bool}
include hsg
theorem rv_cases:(rv q sg x=(q x.1:Int)+1/\(if x.2 then-sg x.1 else sg x.1)=1)\/(rv q sg x=-((q x.1:Int)+1)/\(if x.2 then-sg x.1 else sg x.1)=-1):=by
 unfold rv
 have:(if x.2 then-sg x.1 else sg x.1)=1\/(if x.2 then-sg x.1 else sg x.1)=-1:=by
  rcases hsg x.1 with h | h<;>cases x.2<;>simp [h]
 rcases this with h | h<;>rw [h]
 ·exact .inl ⟨Int.mul_one _,rfl⟩
 ·exact .inr ⟨by rw [Int.mul_neg,Int.mul_one],rfl⟩
theorem rv_abs:absI (rv q sg x)=(q x.1:Int)+1:=by
 unfold absI;rcases rv_cases hsg (q:=q) (x:=x) with ⟨h,-⟩ | ⟨h,-⟩<;>rw [h]<;>split<;>(first | exact o135 (by assumption) | exact o137 | exact o140 | exact o141 (by assumption))
theorem rv_ne:rv q sg x≠0:=by
 rcases rv_cases hsg (q:=q) (x:=x) with ⟨h,-⟩ | ⟨h,-⟩<;>rw [h]<;>(first | exact o133 | exact o134)
omit hsg in
theorem rv_neg (l:Nat) (b:Bool):-(rv q sg (l,b))=rv q sg (l,!b):=by
 unfold rv;cases b<;>simp [Int.mul_neg]
theorem rv_inj (h:rv q sg x=rv q sg y) (hq:q x.1=q y.1->x.1=y.1):x=y:=by
 have hy:=rv_abs hsg (q:=q) (x:=y)
 have hx:=rv_abs hsg (q:=q) (x:=x)
 rw [h,hy] at hx
 have h1:x.1=y.1:=hq (by exact o138 hx)
 have h2:x.2=y.2:=by
  have a:=rv_cases hsg (q:=q) (x:=x)
  have b:=rv_cases hsg (q:=q) (x:=y)
  rw [h,h1] at a
  have:(if x.2 then-sg y.1 else sg y.1)=(if y.2 then-sg y.1 else sg y.1):=by exact o142 a b
  rcases hsg y.1 with e | e<;>rw [e] at this<;>cases hx2:x.2<;>cases hy2:y.2<;>simp [hx2,hy2] at this ⊢
 exact Prod.ext h1 h2
theorem rv_turn:(if rv q sg x < 0 then-sg x.1 else sg x.1)=if x.2 then -1 else 1:=by
 rcases rv_cases hsg (q:=q) (x:=x) with ⟨h,h2⟩ | ⟨h,h2⟩<;>rw [h]
 ·rw [if_neg (by exact o136)];rcases hsg x.1 with e | e<;>rw [e] at h2 ⊢<;>cases hx:x.2<;>simp [hx] at h2 ⊢
 ·rw [if_pos (by exact o139)];rcases hsg x.1 with e | e<;>rw [e] at h2 ⊢<;>cases hx:x.2<;>simp [hx] at h2 ⊢
end
noncomputable def ordG (o:List Nat) (R:List (Nat×Bool)):List Nat:=R.foldl (fun o x=>if x.1∈o then o else o++[x.1]) o
noncomputable def ordL (R:List (Nat×Bool)):List Nat:=ordG [] R
theorem ordG_app (o:List Nat) (R R':List (Nat×Bool)):ordG o (R++R')=ordG (ordG o R) R':=by simp [ordG]
theorem mem_ordG {l:Nat}:∀ {R:List (Nat×Bool)} {o:List Nat},l∈ordG o R↔l∈o\/∃ b,(l,b)∈R
 | [],o=>by simp [ordG]
 | x::R,o=>by
  show l∈ordG (if x.1∈o then o else o++[x.1]) R↔_
  rw [mem_ordG]
  constructor
  ·rintro (h | ⟨b,h⟩)
   ·split at h
    ·exact .inl h
    ·simp at h;rcases h with h | h
     ·exact .inl h
     ·exact .inr ⟨x.2,by simp [h]⟩
   ·exact .inr ⟨b,by simp [h]⟩
  ·rintro (h | ⟨b,h⟩)
   ·left;split<;>simp [h]
   ·simp at h;rcases h with h | h
    ·left;subst h;split<;>simp_all
    ·exact .inr ⟨b,h⟩
theorem nd_ordG:∀ {R:List (Nat×Bool)} {o:List Nat},o.Nodup->(ordG o R).Nodup
 | [],_,h=>h
 | x::R,o,h=>by
  show (ordG (if x.1∈o then o else o++[x.1]) R).Nodup
  split
  ·exact nd_ordG h
  ·rename_i hn
   refine nd_ordG ?_
   rw [List.nodup_append];refine ⟨h,by simp,?_⟩
   intro a ha b hb;simp at hb;subst hb;rintro rfl;exact hn ha
theorem nd_ordL {R:List (Nat×Bool)}:(ordL R).Nodup:=nd_ordG (by simp)
theorem mem_ordL {R:List (Nat×Bool)} {l:Nat}:l∈ordL R↔∃ b,(l,b)∈R:=by unfold ordL;rw [mem_ordG];simp
noncomputable def qL (R:List (Nat×Bool)) (l:Nat):Nat:=(ordL R).idxOf l
theorem idxOf_lt_of_mem {o:List Nat} {l:Nat} (h:l∈o):o.idxOf l < o.length:=List.idxOf_lt_length_iff.2 h
theorem qL_inj {R:List (Nat×Bool)} {l l':Nat} (h:l∈ordL R) (h':l'∈ordL R) (e:qL R l=qL R l'):l=l':=by
 have a:(ordL R)[qL R l]?=some l:=by unfold qL;rw [List.getElem?_eq_getElem (idxOf_lt_of_mem h)];exact congrArg some (List.getElem_idxOf _)
 have b:(ordL R)[qL R l']?=some l':=by unfold qL;rw [List.getElem?_eq_getElem (idxOf_lt_of_mem h')];exact congrArg some (List.getElem_idxOf _)
 rw [e,b] at a;exact (Option.some.inj a).symm
noncomputable def dps (R:List (Nat×Bool)) (sg:Nat->Int):List Int:=R.map (rv (qL R) sg)
noncomputable def dts (R:List (Nat×Bool)) (sg:Nat->Int):List Int:=(ordL R).map sg
theorem idxOf?_map {α:Type} [BEq α] [LawfulBEq α] {f:α->Int} {x:α} {M:List Int}:∀ {R:List α},x∈R->(∀ y∈R,f y=f x->y=x)->(R.map f++M).idxOf? (f x)=some (R.idxOf x)
 | [],h,_=>by simp at h
 | a::R,h,hi=>by
  by_cases e:a=x
  ·subst e;simp [List.idxOf?_cons]
  ·have hne:f a≠f x:=fun e'=>e (hi a (by simp) e')
   have hx:x∈R:=by simpa [show x≠a from fun h=>e h.symm] using h
   have:=idxOf?_map (f:=f) (M:=M) hx (fun y hy=>hi y (by simp [hy]))
   rw [List.map_cons,List.cons_append,List.idxOf?_cons]
   have e':(a==x)=false:=by simpa using e
   simp [hne,this,List.idxOf_cons,e']
end Mine.Internal
end
section
namespace Mine.Internal
abbrev Sd:=Nat×Bool
section
variable {R:List Sd}
noncomputable def orb (R:List Sd) (x:Sd):List Sd:=(walk (nx R) 1000000 [] x).getD []
noncomputable def stR (R:List Sd) (a:List Sd×Nat) (x:Sd):List Sd×Nat:=if x∈a.1 then a else (a.1++orb R x,a.2+1)
noncomputable def cntR (R:List Sd):Nat:=((sds R.length).foldl (stR R) ([],0)).2
structure GI (R:List Sd) (G:List Sd):Prop where
 nd:G.Nodup
 sub:∀ y∈G,y∈sds R.length
 cl:∀ y∈G,nx R y∈G
theorem GI.nil:GI R []:=⟨List.nodup_nil,fun _ h=>absurd h List.not_mem_nil,fun _ h=>absurd h List.not_mem_nil⟩
theorem sds_len (m:Nat):(sds m).length=2*(m+2):=by
 have hl:∀ n,((List.range n).flatMap fun l=>[((l:Nat),true),(l,false)]).length=2*n:=by
  intro n;induction n with
  | zero=>rfl
  | succ n ih=>rw [List.range_succ,List.flatMap_append,List.length_append,ih];simp;exact o71
 exact hl _
theorem orb_is {n:Nat} (c:Code n R) (hm:R.length<=1000) {x:Sd} (hx:x∈sds R.length):walk (nx R) 1000000 [] x=some (orb R x)/\(orb R x).Nodup/\(∀ y∈orb R x,y∈sds R.length)/\∀ y,y∈orb R x↔Reach (nx R) x y:=by
 obtain ⟨F,h1,h2,h3,h4⟩:=walk_face (nx_mem c) hx (n:=1000000) (by rw [sds_len];exact u37 hm)
 have:orb R x=F:=by unfold orb;rw [h1];rfl
 rw [this];exact ⟨h1,h2,h3,h4⟩
theorem GI.reach {G:List Sd} (g:GI R G) {x y:Sd} (hx:x∈G) (r:Reach (nx R) x y):y∈G:=Reach.mem g.cl hx r
theorem GI.apart {n:Nat} (c:Code n R) (hm:R.length<=1000) {G:List Sd} (g:GI R G) {x:Sd} (hx:x∈sds R.length) (hG:x∉G):∀ y∈orb R x,y∉G:=fun y hy hyG=>by
 have r:=((orb_is c hm hx).2.2.2 y).1 hy
 exact hG (g.reach hyG (r.symm (nx_mem c) (pv_nx c) hx))
theorem GI.step {n:Nat} (c:Code n R) (hm:R.length<=1000) {G:List Sd} (g:GI R G) {x:Sd} (hx:x∈sds R.length) (hG:x∉G):GI R (G++orb R x):=by
 obtain ⟨h1,h2,h3,h4⟩:=orb_is c hm hx
 refine ⟨List.nodup_append.2 ⟨g.nd,h2,fun a ha b hb e=>g.apart c hm hx hG b hb (e ▸ ha)⟩,fun y hy=>?_,fun y hy=>?_⟩
 ·rcases List.mem_append.1 hy with h | h
  ·exact g.sub y h
  ·exact h3 y h
 ·rcases List.mem_append.1 hy with h | h
  ·exact List.mem_append_left _ (g.cl y h)
  ·exact List.mem_append_right _ ((h4 _).2 (((h4 y).1 h).trans (.step y)))
theorem cnt_lam {n:Nat} (c:Code n R) (hm:R.length<=1000) {lam:Sd->Nat} (hl:∀ x∈sds R.length,∀ y∈sds R.length,(lam x=lam y↔Reach (nx R) x y)) {D:List Nat} (nd:D.Nodup) (hD:∀ v,v∈D↔∃ x∈sds R.length,lam x=v):cntR R=D.length:=by
 have key:∀ (xs pre G:List Sd) (E:List Nat),(∀ x∈xs,x∈sds R.length)->(∀ y∈sds R.length,(y∈G↔∃ z∈pre,lam z=lam y))->E.Nodup->(∀ v,v∈E↔∃ z∈pre,lam z=v) ->
   ∃ E':List Nat,E'.Nodup/\(∀ v,v∈E'↔∃ z∈pre++xs,lam z=v)/\(xs.foldl (stR R) (G,E.length)).2=E'.length:=by
  intro xs
  induction xs with
  | nil=>intro pre G E _ _ h3 h4;exact ⟨E,h3,by simpa using h4,rfl⟩
  | cons x xs ih=>
   intro pre G E h1 h2 h3 h4
   have hx:=h1 x List.mem_cons_self
   have h1':∀ y∈xs,y∈sds R.length:=fun y hy=>h1 y (List.mem_cons_of_mem _ hy)
   have ap:pre++x::xs=pre++[x]++xs:=by rw [List.append_assoc];rfl
   rw [ap,List.foldl_cons]
   by_cases hG:x∈G
   ·obtain ⟨z0,hz0,e0⟩:=(h2 x hx).1 hG
    have ad:∀ v,(∃ z∈pre++[x],lam z=v)↔∃ z∈pre,lam z=v:=fun v=>⟨fun ⟨z,hz,e⟩=>by
     rcases List.mem_append.1 hz with h | h
     ·exact ⟨z,h,e⟩
     ·rw [List.mem_singleton.1 h] at e;exact ⟨z0,hz0,e0.trans e⟩,fun ⟨z,hz,e⟩=>⟨z,List.mem_append_left _ hz,e⟩⟩
    have e:stR R (G,E.length) x=(G,E.length):=if_pos hG
    rw [e]
    exact ih (pre++[x]) G E h1' (fun y hy=>(h2 y hy).trans (ad _).symm) h3 fun v=>(h4 v).trans (ad v).symm
   ·have e:stR R (G,E.length) x=(G++orb R x,(E++[lam x]).length):=by rw [List.length_append];exact if_neg hG
    rw [e]
    have ad:∀ v,(∃ z∈pre++[x],lam z=v)↔(∃ z∈pre,lam z=v)\/lam x=v:=fun v=>⟨fun ⟨z,hz,e⟩=>by
     rcases List.mem_append.1 hz with h | h
     ·exact .inl ⟨z,h,e⟩
     ·rw [List.mem_singleton.1 h] at e;exact .inr e,fun h=>h.elim (fun ⟨z,hz,e⟩=>⟨z,List.mem_append_left _ hz,e⟩) fun e=>⟨x,List.mem_append_right _ (List.mem_singleton.2 rfl),e⟩⟩
    refine ih (pre++[x]) _ _ h1' (fun y hy=>?_) (List.nodup_append.2 ⟨h3,List.nodup_cons.2 ⟨List.not_mem_nil,List.nodup_nil⟩,fun a ha b hb e=>?_⟩) fun v=>?_
    ·rw [ad,List.mem_append,h2 y hy,(orb_is c hm hx).2.2.2 y,hl x hx y hy]
    ·rw [List.mem_singleton.1 hb] at e
     rw [e] at ha
     exact hG ((h2 x hx).2 ((h4 _).1 ha))
    ·rw [ad,List.mem_append,h4 v,List.mem_singleton]
     exact or_congr Iff.rfl ⟨Eq.symm,Eq.symm⟩
 obtain ⟨E,h1,h2,h3⟩:=key (sds R.length) [] [] [] (fun _ h=>h) (fun y _=>⟨fun h=>absurd h List.not_mem_nil,fun ⟨z,hz,_⟩=>absurd hz List.not_mem_nil⟩) List.nodup_nil (fun v=>⟨fun h=>absurd h List.not_mem_nil,fun ⟨z,hz,_⟩=>absurd hz List.not_mem_nil⟩)
 have h3:cntR R=E.length:=h3
 rw [h3]
 exact Nat.le_antisymm (nodup_le h1 fun v hv=>(hD v).2 ((h2 v).1 hv)) (nodup_le nd fun v hv=>(h2 v).2 ((hD v).1 hv))
theorem cnt_rope {s:Nat} {w:List Nat} (o:Rope s w R) (hm:R.length<=1000):cntR R=w.length+1:=by
 have nd:((List.range (w.length+2)).filter fun v=>v != cl s w R (0,false)).Nodup:=List.nodup_range.filter _
 have hD:∀ v,v∈(List.range (w.length+2)).filter (fun v=>v != cl s w R (0,false))↔∃ x∈sds R.length,lam s w R x=v:=fun v=>by
  rw [lam_range o,List.mem_filter,List.mem_range,bne_iff_ne]
  exact and_congr ⟨Nat.le_of_lt_succ,Nat.lt_succ_of_le⟩ Iff.rfl
 exact (cnt_lam o.code hm (fun _ hx _ hy=>lam_reach o hx hy) nd hD).trans (count_faces o nd hD)
end
noncomputable def kk:Nat->List Sd
 | 0=>[]
 | m+1=>kk m++[(m,false),(m,true)]
theorem kkS {m:Nat}:kk (m+1)=kk m++[(m,false),(m,true)]:=rfl
theorem kk_len:∀ m:Nat,(kk m).length=2*m
 | 0=>rfl
 | m+1=>by rw [kkS,List.length_append,kk_len m];rfl
theorem kk_at {l:Nat}:∀ {m:Nat},l < m->(kk m)[2*l]?=some (l,false)/\(kk m)[2*l+1]?=some (l,true)
 | m+1,h=>by
  rw [kkS]
  rcases Nat.lt_or_eq_of_le (Nat.le_of_lt_succ h) with q | q
  ·rw [List.getElem?_append_left (by rw [kk_len];exact wa1 q),List.getElem?_append_left (by rw [kk_len];exact wa2 q)];exact kk_at q
  ·subst q
   rw [List.getElem?_append_right (by rw [kk_len];exact Nat.le_refl _),List.getElem?_append_right (by rw [kk_len];exact Nat.le_succ _),kk_len,Nat.sub_self,Nat.add_sub_cancel_left]
   exact ⟨rfl,rfl⟩
theorem mem_kk {l:Nat} {b:Bool}:∀ {m:Nat},(l,b)∈kk m↔l < m
 | 0=>⟨fun h=>absurd h List.not_mem_nil,fun h=>absurd h (Nat.not_lt_zero _)⟩
 | m+1=>by
  rw [kkS,List.mem_append,mem_kk]
  refine ⟨fun h=>h.elim Nat.lt_succ_of_lt fun h=>?_,fun h=>(Nat.lt_or_eq_of_le (Nat.le_of_lt_succ h)).imp id fun q=>?_⟩
  ·rcases List.mem_cons.1 h with e | e
   ·exact (Prod.mk.inj e).1 ▸ Nat.lt_succ_self _
   ·exact (Prod.mk.inj (List.mem_singleton.1 e)).1 ▸ Nat.lt_succ_self _
  ·subst q;cases b
   ·exact List.mem_cons_self
   ·exact List.mem_cons_of_mem _ List.mem_cons_self
theorem nd_kk:∀ {m:Nat},(kk m).Nodup
 | 0=>List.nodup_nil
 | m+1=>by
  refine List.nodup_append.2 ⟨nd_kk,List.nodup_cons.2 ⟨fun h=>?_,List.nodup_cons.2 ⟨List.not_mem_nil,List.nodup_nil⟩⟩,fun a ha b hb e=>?_⟩
  ·cases List.mem_singleton.1 h
  ·subst e
   have h:=mem_kk.1 (show (a.1,a.2)∈kk m from ha)
   rcases List.mem_cons.1 hb with e | e
   ·rw [e] at h;exact Nat.lt_irrefl _ h
   ·rw [List.mem_singleton.1 e] at h;exact Nat.lt_irrefl _ h
theorem kk_code (m:Nat):Code m (kk m):=⟨nd_kk,fun _ _=>mem_kk⟩
theorem kk_ord:∀ m:Nat,ordL (kk m)=List.range m
 | 0=>rfl
 | m+1=>by
  unfold ordL
  rw [kkS,ordG_app,show ordG [] (kk m)=List.range m from kk_ord m]
  show (fun o=>if m∈o then o else o++[m]) (if m∈List.range m then List.range m else List.range m++[m])=_
  rw [if_neg List.not_mem_range_self,List.range_succ]
  exact if_pos (List.mem_append_right _ List.mem_cons_self)
section
variable {m l:Nat}
theorem kk_t0 (h:l < m):nx (kk m) (2*l,true)=(2*l+2,true):=by
 have a:=kk_at h
 simp only [nx];rw [a.1]
 simp [idx_at nd_kk a.2]
theorem kk_t1 (h:l < m):nx (kk m) (2*l+1,true)=(2*l,false):=by
 have a:=kk_at h
 simp only [nx];rw [a.2]
 simp [idx_at nd_kk a.1]
theorem kk_f1 (h:l < m):nx (kk m) (2*l+1,false)=(2*l+1,false):=by
 have a:=kk_at h
 simp only [nx];rw [a.1]
 simp [idx_at nd_kk a.2]
theorem kk_f2 (h:l < m):nx (kk m) (2*l+2,false)=(2*l+1,true):=by
 have a:=kk_at h
 simp only [nx];rw [a.2]
 simp [idx_at nd_kk a.1]
end
noncomputable def kl (m:Nat) (x:Sd):Nat:=if x.1 % 2=1/\x.1 / 2 < m/\x.2=false then x.1 / 2+1 else 0
theorem kk_cases {m:Nat} {x:Sd} (hx:x∈sds (kk m).length):(∃ l,l < m/\(x.1=2*l\/x.1=2*l+1))\/x.1=2*m\/x.1=2*m+1:=by
 have h:=mem_sds.1 hx
 rw [kk_len] at h
 by_cases q:x.1 < 2*m
 ·exact .inl ⟨x.1 / 2,v37 q,v40⟩
 ·exact .inr (by exact u59 h q)
section
variable {m:Nat}
theorem kl_even {k:Nat} {d:Bool}:kl m (2*k,d)=0:=if_neg fun h=>by have:=h.1;simp at this
theorem kl_t {g:Nat}:kl m (g,true)=0:=if_neg fun h=>Bool.noConfusion h.2.2
theorem kl_odd {l:Nat} (h:l < m):kl m (2*l+1,false)=l+1:=by
 have e:(2*l+1) / 2=l:=v36
 unfold kl
 dsimp only
 rw [e,if_pos ⟨v38,h,rfl⟩]
theorem kl_out {d:Bool}:kl m (2*m+1,d)=0:=if_neg fun h=>by
 have e:(2*m+1) / 2=m:=v36
 have:=h.2.1;dsimp only at this;rw [e] at this;exact Nat.lt_irrefl _ this
theorem kk_end {g:Nat} (h:(kk m).length<=g):(kk m)[g]?=none:=List.getElem?_eq_none_iff.2 h
theorem kk_e0:nx (kk m) (2*m,true)=(2*m+1,true):=by
 simp only [nx];rw [kk_end (by rw [kk_len];exact Nat.le_refl _)]
 exact if_pos (kk_len m).symm
theorem kk_e1:nx (kk m) (2*m+1,true)=(2*m+1,false):=by
 simp only [nx];rw [kk_end (by rw [kk_len];exact u45)]
 exact if_neg (by rw [kk_len];exact u46)
theorem kk_e2:nx (kk m) (2*m+1,false)=(2*m,false):=by
 simp only [nx];rw [kk_end (by rw [kk_len];exact Nat.le_refl _)]
theorem kk_down:∀ {k:Nat},k<=m->Reach (nx (kk m)) (2*k,false) (0,true)
 | 0,_=>⟨1,by simp [itr0,itrS,nx]⟩
 | k+1,h=>Reach.trans ⟨1,kk_f2 h⟩ (Reach.trans ⟨1,kk_t1 h⟩ (kk_down (Nat.le_of_lt h)))
theorem kk_up:∀ {j k:Nat},k+j=m->Reach (nx (kk m)) (2*k,true) (0,true)
 | 0,k,h=>by
  have:k=m:=h
  subst this
  exact Reach.trans ⟨1,kk_e0⟩ (Reach.trans ⟨1,kk_e1⟩ (Reach.trans ⟨1,kk_e2⟩ (kk_down (Nat.le_refl _))))
 | j+1,k,h=>Reach.trans ⟨1,kk_t0 (by exact wa5 h)⟩ (kk_up (j:=j) (k:=k+1) (by exact wa6 h))
theorem kk_zero {x:Sd} (hx:x∈sds (kk m).length) (h:kl m x=0):Reach (nx (kk m)) x (0,true):=by
 obtain ⟨g,d⟩:=x
 have up:∀ {k:Nat},k<=m->Reach (nx (kk m)) (2*k,true) (0,true):=fun {k} hk=>kk_up (j:=m-k) (by exact wa3 hk)
 have ev:∀ {k:Nat},k<=m->Reach (nx (kk m)) (2*k,d) (0,true):=fun hk=>by
  cases d with
  | true=>exact up hk
  | false=>exact kk_down hk
 rcases kk_cases hx with ⟨l,hl,e | e⟩ | e | e<;>dsimp only at e<;>subst e
 ·exact ev (Nat.le_of_lt hl)
 ·cases d with
  | true=>exact Reach.trans ⟨1,kk_t1 hl⟩ (kk_down (Nat.le_of_lt hl))
  | false=>rw [kl_odd hl] at h;cases h
 ·exact ev (Nat.le_refl _)
 ·have:Reach (nx (kk m)) (2*m+1,false) (0,true):=Reach.trans ⟨1,kk_e2⟩ (kk_down (Nat.le_refl m))
  cases d with
  | true=>exact Reach.trans ⟨1,kk_e1⟩ this
  | false=>exact this
theorem kl_f {k:Nat} (h:k<=m):kl m (nx (kk m) (2*k,false))=0:=by
 cases k with
 | zero=>exact kl_even (k:=0)
 | succ k=>rw [show 2*(k+1)=2*k+2 from rfl,kk_f2 h];exact kl_t
theorem kl_nx {x:Sd} (hx:x∈sds (kk m).length):kl m (nx (kk m) x)=kl m x:=by
 obtain ⟨g,d⟩:=x
 rcases kk_cases hx with ⟨l,hl,e | e⟩ | e | e<;>dsimp only at e<;>subst e
 ·cases d with
  | true=>rw [kk_t0 hl,kl_t,kl_t]
  | false=>rw [kl_f (Nat.le_of_lt hl),kl_even]
 ·cases d with
  | true=>rw [kk_t1 hl,kl_even,kl_t]
  | false=>rw [kk_f1 hl]
 ·cases d with
  | true=>rw [kk_e0,kl_out,kl_even]
  | false=>rw [kl_f (Nat.le_refl _),kl_even]
 ·cases d with
  | true=>rw [kk_e1,kl_out,kl_out]
  | false=>rw [kk_e2,kl_out,kl_even]
theorem kl_pos {x:Sd} {v:Nat} (h:kl m x=v+1):x=(2*v+1,false)/\v < m:=by
 unfold kl at h
 by_cases q:x.1 % 2=1/\x.1 / 2 < m/\x.2=false
 ·rw [if_pos q] at h
  have:x.1 / 2=v:=v39 h
  rw [this] at q
  exact ⟨Prod.ext (v41 h q.1) q.2.2,q.2.1⟩
 ·rw [if_neg q] at h;cases h
theorem cnt_kinks (hm:m<=500):cntR (kk m)=m+1:=by
 have c:=kk_code m
 have hlen:(kk m).length<=1000:=by rw [kk_len];exact wa4 hm
 refine (cnt_lam c hlen (lam:=kl m) (fun x hx y hy=>⟨fun e=>?_,fun ⟨k,r⟩=>?_⟩) (D:=List.range (m+1)) List.nodup_range fun v=>?_).trans List.length_range
 ·cases hv:kl m x with
  | zero=>
   rw [hv] at e
   exact (kk_zero hx hv).trans ((kk_zero hy e.symm).symm (nx_mem c) (pv_nx c) hy)
  | succ v=>
   rw [hv] at e
   rw [(kl_pos hv).1,(kl_pos e.symm).1];exact .refl _
 ·subst r
  clear hy
  have:∀ k,kl m x=kl m (itr (nx (kk m)) k x):=fun k=>by
   induction k with
   | zero=>rfl
   | succ k ih=>exact ih.trans (kl_nx (itr_mem (nx_mem c) hx k)).symm
  exact this k
 ·rw [List.mem_range]
  constructor
  ·intro h
   cases v with
   | zero=>exact ⟨(0,true),mem_sds.2 (Nat.succ_pos _),rfl⟩
   | succ v=>exact ⟨(2*v+1,false),mem_sds.2 (by rw [kk_len];show 2*v+1 < _;exact wa7 h),kl_odd (Nat.lt_of_succ_lt_succ h)⟩
  ·rintro ⟨x,hx,e⟩
   cases v with
   | zero=>exact Nat.succ_pos _
   | succ v=>exact Nat.succ_lt_succ (kl_pos e).2
end
end Mine.Internal
end
section
namespace Mine.Internal
noncomputable def ordS (o:List Int) (i:Int):List Int:=if absI i∈o then o else o++[absI i]
noncomputable def up1 (n:Nat):List Int:=(List.range n).map fun (k:Nat)=>(k:Int)+1
theorem mem_up1 {n:Nat} {i:Int}:i∈up1 n↔0 < i/\i<=n:=by
 unfold up1;rw [List.mem_map]
 constructor
 ·rintro ⟨k,hk,rfl⟩;have:=List.mem_range.1 hk;exact u66 this
 ·intro h;exact ⟨(i-1).toNat,List.mem_range.2 (by exact v42 h.1 h.2),by exact v43 h.1⟩
theorem up1_succ (n:Nat):up1 (n+1)=up1 n++[(n:Int)+1]:=by unfold up1;rw [List.range_succ,List.map_append];rfl
theorem up1_len (n:Nat):(up1 n).length=n:=by unfold up1;rw [List.length_map,List.length_range]
theorem up1_inj {n m:Nat} (h:up1 n=up1 m):n=m:=by have:=congrArg List.length h;rwa [up1_len,up1_len] at this
theorem absI_eq {i j:Int} (h:absI i=absI j):j=i\/j=-i:=by unfold absI at h;split at h<;>split at h<;>(first | exact u72 h | exact u74 h | exact u75 h | exact u76 h)
theorem absI_neg (i:Int):absI (-i)=absI i:=by unfold absI;split<;>split<;>(first | exact u68 (by assumption) (by assumption) | exact u70 | exact u71 | exact u73 (by assumption) (by assumption))
noncomputable def apI (n m:Nat):List Int->List Int->Nat->Bool
 | [],_,met=>decide (m=2*n)&&decide (met=n)
 | i::r,seen,met=>if i=0\/(n:Int) < absI i\/i∈seen then false else if -i∈seen then apI n m r (seen++[i]) met
  else if absI i=(met:Int)+1 then apI n m r (seen++[i]) (met+1) else false
theorem apN {n m met:Nat} {seen:List Int}:apI n m [] seen met=(decide (m=2*n)&&decide (met=n)):=rfl
theorem apC {n m met:Nat} {i:Int} {r seen:List Int}:apI n m (i::r) seen met=if i=0\/(n:Int) < absI i\/i∈seen then false else if -i∈seen then apI n m r (seen++[i]) met
  else if absI i=(met:Int)+1 then apI n m r (seen++[i]) (met+1) else false:=rfl
theorem ordS_ext:∀ (is o:List Int),∃ e,is.foldl ordS o=o++e
 | [],o=>⟨[],(List.append_nil o).symm⟩
 | i::is,o=>by
  obtain ⟨e,h⟩:=ordS_ext is (ordS o i)
  rw [List.foldl_cons,h]
  unfold ordS
  split
  ·exact ⟨e,rfl⟩
  ·exact ⟨absI i::e,by rw [List.append_assoc];rfl⟩
theorem apI_ok {n m:Nat} (hm:m=2*n):∀ {is seen:List Int} {met:Nat},(∀ k:Int,k∈up1 met↔∃ j∈seen,absI j=k) ->
  (seen++is).Nodup->(∀ i∈is,i≠0/\absI i<=n)->is.foldl ordS (up1 met)=up1 n->apI n m is seen met=true
 | [],seen,met,_,_,_,h=>by rw [apN,decide_eq_true hm,decide_eq_true (up1_inj h)];rfl
 | i::r,seen,met,hk,hn,ho,h=>by
  have ap:seen++i::r=seen++[i]++r:=by rw [List.append_assoc];rfl
  have hi:=ho i List.mem_cons_self
  have his:i∉seen:=fun h=>(List.nodup_append.1 hn).2.2 i h i List.mem_cons_self rfl
  rw [ap] at hn
  have ho':∀ j∈r,j≠0/\absI j<=n:=fun j hj=>ho j (List.mem_cons_of_mem _ hj)
  rw [List.foldl_cons] at h
  rw [apC,if_neg fun q=>q.elim hi.1 fun q=>q.elim (Int.not_lt.2 hi.2) his]
  by_cases c2:-i∈seen
  ·have hm':absI i∈up1 met:=(hk _).2 ⟨-i,c2,absI_neg i⟩
   rw [show ordS (up1 met) i=up1 met from if_pos hm'] at h
   rw [if_pos c2]
   refine apI_ok hm (fun k=>(hk k).trans ⟨fun ⟨j,hj,e⟩=>⟨j,List.mem_append_left _ hj,e⟩,fun ⟨j,hj,e⟩=>?_⟩) hn ho' h
   rcases List.mem_append.1 hj with h | h
   ·exact ⟨j,h,e⟩
   ·rw [List.mem_singleton.1 h] at e;exact ⟨-i,c2,(absI_neg i).trans e⟩
  ·have hm':absI i∉up1 met:=fun h=>by
    obtain ⟨j,hj,e⟩:=(hk _).1 h
    rcases absI_eq e with h | h
    ·exact his (h ▸ hj)
    ·exact c2 ((show -i=j by exact u78 h) ▸ hj)
   rw [show ordS (up1 met) i=up1 met++[absI i] from if_neg hm'] at h
   have c3:absI i=(met:Int)+1:=by
    obtain ⟨e,he⟩:=ordS_ext r (up1 met++[absI i])
    rw [he] at h
    have h4:(up1 n)[met]?=some (absI i):=by
     rw [<-h,List.append_assoc,List.getElem?_append_right (by rw [up1_len];exact Nat.le_refl _),up1_len,Nat.sub_self];rfl
    unfold up1 at h4
    rw [List.getElem?_map] at h4
    obtain ⟨k,hk',e'⟩:=Option.map_eq_some_iff.1 h4
    have:=(List.getElem?_eq_some_iff.1 hk').2
    rw [List.getElem_range] at this
    rw [<-e',<-this]
   rw [c3,<-up1_succ] at h
   rw [if_neg c2,if_pos c3]
   refine apI_ok hm (fun k=>?_) hn ho' h
   rw [up1_succ,List.mem_append,hk k,List.mem_singleton]
   refine ⟨fun q=>q.elim (fun ⟨j,hj,e⟩=>⟨j,List.mem_append_left _ hj,e⟩) fun e=>⟨i,List.mem_append_right _ (List.mem_singleton.2 rfl),c3.trans e.symm⟩,fun ⟨j,hj,e⟩=>(List.mem_append.1 hj).imp (fun h=>⟨j,h,e⟩) fun h=>?_⟩
   rw [List.mem_singleton.1 h] at e;exact e.symm.trans c3
structure Good (n:Nat) (is:List Int):Prop where
 nd:is.Nodup
 ok:∀ i∈is,i≠0/\absI i<=n
 ord:is.foldl ordS []=up1 n
 len:is.length=2*n
theorem apI_good {n:Nat} {is:List Int} (h:Good n is):apI n is.length is [] 0=true:=
 apI_ok h.len (fun k=>⟨fun h=>absurd h List.not_mem_nil,fun ⟨_,h,_⟩=>absurd h List.not_mem_nil⟩) h.nd h.ok h.ord
noncomputable def pmL (n:Nat):List Int:=up1 n++(up1 n).map fun i=>-i
theorem pmL_len (n:Nat):(pmL n).length=2*n:=by unfold pmL;rw [List.length_append,List.length_map,up1_len];exact u79
theorem mem_pmL {n:Nat} {i:Int} (h:i≠0) (h2:absI i<=n):i∈pmL n:=by
 unfold pmL;rw [List.mem_append]
 unfold absI at h2
 by_cases q:i < 0
 ·rw [if_pos q] at h2;exact .inr (List.mem_map.2 ⟨-i,mem_up1.2 (by exact u80 h2 q),by exact u70⟩)
 ·rw [if_neg q] at h2;exact .inl (mem_up1.2 (by exact u83 h h2 q))
theorem Good.mem {n:Nat} {is:List Int} (g:Good n is) {i:Int} (h:i≠0) (h2:absI i<=n):i∈is:=
 Classical.byContradiction fun q=>by
  have:=nodup_le (l:=i::is) (m:=pmL n) (List.nodup_cons.2 ⟨q,g.nd⟩) fun j hj=>(List.mem_cons.1 hj).elim (fun e=>e ▸ mem_pmL h h2) fun hj=>mem_pmL (g.ok j hj).1 (g.ok j hj).2
  rw [List.length_cons,pmL_len,g.len] at this
  exact (u81 this).elim
end Mine.Internal
end
section
namespace Mine.Internal
open PySem
noncomputable def f7_side_behind:Fn:=⟨14,3,[
 (.unpack [3,4] (.var 2)),
 (.ite (.or [(.and [(.cmp .eq (.var 4) (.const (.int 1))),(.cmp .eq (.var 3) (.prim .len [(.var 0)]))]),(.and [(.cmp .eq (.var 4) (.neg (.const (.int 1)))),(.cmp .eq (.var 3) (.const (.int 0)))])]) [(.ret (.tup [(.var 3),(.bin .sub (.const (.int 0)) (.var 4))]))] []),
 (.assign 5 (.ite (.cmp .eq (.var 4) (.const (.int 1))) (.idx (.var 0) (.var 3)) (.idx (.var 0) (.bin .sub (.var 3) (.const (.int 1)))))),
 (.ite (.cmp .eq (.var 5) (.const (.int 0))) [(.ret (.tup [(.bin .add (.var 3) (.var 4)),(.var 4)]))] []),
 (.assign 6 (.bin .mul (.var 4) (.idx (.var 1) (.prim .abs [(.var 5)])))),
 (.ite (.cmp .lt (.var 5) (.const (.int 0))) [(.assign 6 (.bin .sub (.const (.int 0)) (.var 6)))] []),
 (.assign 7 (.index (.var 0) (.bin .sub (.const (.int 0)) (.var 5)))),
 (.ite (.cmp .eq (.var 6) (.const (.int 1))) [(.ret (.tup [(.bin .add (.var 7) (.const (.int 1))),(.const (.int 1))]))] []),
 (.ret (.tup [(.var 7),(.neg (.const (.int 1)))]))]⟩
noncomputable def f7_face_of:Fn:=⟨10,3,[
 (.assign 3 .dct0),
 (.while_ (.cmp .notIn (.var 2) (.var 3)) [(.setItem 3 (.var 2) (.const (.bool true))),(.assign 2 (.call 0 false [(.var 0),(.var 1),(.var 2)]))]),
 (.ret (.var 3))]⟩
noncomputable def f7_face_count:Fn:=⟨12,2,[
 (.assign 2 .dct0),
 (.assign 3 (.const (.int 0))),
 (.for_ (.one 4) .range1 [(.bin .add (.prim .len [(.var 0)]) (.const (.int 1)))] [(.for_ (.one 5) .seq [(.tup [(.const (.int 1)),(.neg (.const (.int 1)))])] [(.ite (.cmp .notIn (.tup [(.var 4),(.var 5)]) (.var 2)) [(.update 2 (.call 1 false [(.var 0),(.var 1),(.tup [(.var 4),(.var 5)])])),(.assign 3 (.bin .add (.var 3) (.const (.int 1))))] [])])]),
 (.ret (.var 3))]⟩
noncomputable def f7_is_number:Fn:=⟨7,1,[
 (.ret (.and [(.prim (.isi .int) [(.var 0)]),(.not (.prim (.isi .bool) [(.var 0)]))]))]⟩
noncomputable def f7_turns_of:Fn:=⟨10,1,[
 (.assign 1 .dct0),
 (.for_ (.many [2,3]) .enum [(.idx (.var 0) (.const (.int 1)))] [(.setItem 1 (.bin .add (.var 2) (.const (.int 1))) (.var 3))]),
 (.ret (.var 1))]⟩
noncomputable def f7_are_passes:Fn:=⟨11,2,[
 (.assign 2 (.const (.int 0))),
 (.assign 3 .dct0),
 (.for_ (.one 4) .seq [(.var 0)] [(.ite (.or [(.not (.call 3 false [(.var 4)])),(.cmp .eq (.var 4) (.const (.int 0))),(.cmp .gt (.prim .abs [(.var 4)]) (.var 1)),(.cmp .isIn (.var 4) (.var 3))]) [(.ret (.const (.bool false)))] []),(.ite (.cmp .notIn (.bin .sub (.const (.int 0)) (.var 4)) (.var 3)) [(.assign 2 (.bin .add (.var 2) (.const (.int 1)))),(.ite (.cmp .ne (.prim .abs [(.var 4)]) (.var 2)) [(.ret (.const (.bool false)))] [])] []),(.setItem 3 (.var 4) (.const (.bool true)))]),
 (.ret (.and [(.cmp .eq (.prim .len [(.var 0)]) (.bin .mul (.const (.int 2)) (.var 1))),(.cmp .eq (.var 2) (.var 1))]))]⟩
noncomputable def f7_is_drawing:Fn:=⟨9,1,[
 (.ite (.or [(.not (.prim (.isi .tuple) [(.var 0)])),(.cmp .ne (.prim .len [(.var 0)]) (.const (.int 2)))]) [(.ret (.const (.bool false)))] []),
 (.unpack [1,2] (.var 0)),
 (.ite (.or [(.not (.prim (.isi .tuple) [(.var 1)])),(.not (.prim (.isi .tuple) [(.var 2)])),(.cmp .gt (.prim .len [(.var 2)]) (.const (.int 40)))]) [(.ret (.const (.bool false)))] []),
 (.ite (.not (.prim .all [(.comp (.and [(.call 3 false [(.var 3)]),(.or [(.cmp .eq (.var 3) (.const (.int 1))),(.cmp .eq (.var 3) (.neg (.const (.int 1))))])]) (.one 3) .seq [(.var 2)] [])])) [(.ret (.const (.bool false)))] []),
 (.ite (.or [(.cmp .ne (.prim .len [(.var 1)]) (.bin .mul (.const (.int 2)) (.prim .len [(.var 2)]))),(.not (.call 5 false [(.var 1),(.prim .len [(.var 2)])]))]) [(.ret (.const (.bool false)))] []),
 (.ret (.cmp .eq (.call 2 false [(.bin .add (.prim .listOf [(.var 1)]) (.lst [(.const (.int 0))])),(.call 4 false [(.var 0)])]) (.bin .add (.prim .len [(.var 2)]) (.const (.int 1)))))]⟩
noncomputable def f7_need_drawing:Fn:=⟨7,1,[
 (.ite (.not (.call 6 false [(.var 0)])) [.halt] [])]⟩
noncomputable def f7_gaps_at:Fn:=⟨11,2,[
 (.assign 2 (.prim .len [(.var 0)])),
 (.assign 3 (.index (.var 0) (.var 1))),
 (.assign 4 (.index (.var 0) (.bin .sub (.const (.int 0)) (.var 1)))),
 (.ret (.tup [(.var 3),(.bin .mod (.bin .add (.var 3) (.const (.int 1))) (.var 2)),(.var 4),(.bin .mod (.bin .add (.var 4) (.const (.int 1))) (.var 2))]))]⟩
noncomputable def f7_joins_of:Fn:=⟨13,3,[
 (.unpack [3,4,5,6] (.call 8 false [(.var 0),(.var 1)])),
 (.ite (.var 2) [(.ret (.lst [(.tup [(.var 3),(.var 6)]),(.tup [(.var 5),(.var 4)])]))] []),
 (.ret (.lst [(.tup [(.var 3),(.var 5)]),(.tup [(.var 4),(.var 6)])]))]⟩
noncomputable def f7_loops_of:Fn:=⟨13,2,[
 (.assign 2 (.prim .listRange [(.var 0)])),
 (.for_ (.many [3,4]) .seq [(.var 1)] [(.assign 5 (.idx (.var 2) (.var 3))),(.assign 6 (.idx (.var 2) (.var 4))),(.ite (.cmp .ne (.var 5) (.var 6)) [(.assign 2 (.comp (.ite (.cmp .eq (.var 7) (.var 6)) (.var 5) (.var 7)) (.one 7) .seq [(.var 2)] []))] [])]),
 (.ret (.prim .lenSet [(.var 2)]))]⟩
noncomputable def f7_openings:Fn:=⟨15,2,[
 (.assign 2 (.lst [(.tup [(.const (.int 0)),(.lst [])])])),
 (.for_ (.one 3) .seq [(.var 1)] [(.assign 4 (.lst [])),(.for_ (.many [5,6]) .seq [(.var 2)] [(.append 4 (.tup [(.bin .add (.var 5) (.idx (.var 1) (.var 3))),(.bin .add (.var 6) (.call 9 false [(.var 0),(.var 3),(.const (.bool true))]))])),(.append 4 (.tup [(.bin .sub (.var 5) (.idx (.var 1) (.var 3))),(.bin .add (.var 6) (.call 9 false [(.var 0),(.var 3),(.const (.bool false))]))]))]),(.move 2 4)]),
 (.assign 7 .dct0),
 (.for_ (.many [5,6]) .seq [(.var 2)] [(.assign 8 (.tup [(.var 5),(.call 10 false [(.prim .len [(.var 0)]),(.var 6)])])),(.setItem 7 (.var 8) (.bin .add (.get (.var 7) (.var 8) 0) (.const (.int 1))))]),
 (.ret (.var 7))]⟩
noncomputable def f7_spread:Fn:=⟨10,1,[
 (.assign 1 .dct0),
 (.for_ (.one 2) .seq [(.var 0)] [(.for_ (.one 3) .seq [(.tup [(.bin .add (.var 2) (.const (.int 2))),(.bin .sub (.var 2) (.const (.int 2)))])] [(.setItem 1 (.var 3) (.bin .sub (.get (.var 1) (.var 3) 0) (.idx (.var 0) (.var 2))))])]),
 (.ret (.var 1))]⟩
noncomputable def f7_reckoned:Fn:=⟨16,1,[
 (.expr (.call 7 false [(.var 0)])),
 (.ite (.cmp .gt (.prim .len [(.idx (.var 0) (.const (.int 1)))]) (.const (.int 10))) [.halt] []),
 (.ite (.cmp .eq (.prim .len [(.idx (.var 0) (.const (.int 1)))]) (.const (.int 0))) [(.ret (.tup [(.tup [(.const (.int 0)),(.const (.int 1))])]))] []),
 (.assign 1 .dct0),
 (.assign 2 (.call 11 false [(.prim .listOf [(.idx (.var 0) (.const (.int 0)))]),(.call 4 false [(.var 0)])])),
 (.for_ (.many [3,4]) .seq [(.var 2)] [(.assign 5 (.dct1 (.var 3) (.idx (.var 2) (.tup [(.var 3),(.var 4)])))),(.for_ (.one 6) .range1 [(.bin .sub (.var 4) (.const (.int 1)))] [(.assign 5 (.call 12 false [(.var 5)]))]),(.for_ (.one 7) .seq [(.var 5)] [(.setItem 1 (.var 7) (.bin .add (.get (.var 1) (.var 7) 0) (.idx (.var 5) (.var 7))))])]),
 (.assign 8 (.prim .sum [(.idx (.var 0) (.const (.int 1)))])),
 (.assign 9 (.bin .sub (.const (.int 1)) (.bin .mul (.const (.int 2)) (.bin .mod (.var 8) (.const (.int 2)))))),
 (.ret (.prim .tupleOf [(.comp (.tup [(.bin .sub (.var 10) (.bin .mul (.const (.int 3)) (.var 8))),(.bin .mul (.var 9) (.idx (.var 1) (.var 10)))]) (.one 10) .seq [(.prim .sorted [(.var 1)])] [(.cmp .ne (.idx (.var 1) (.var 10)) (.const (.int 0)))])]))]⟩
noncomputable def f7__law_cell_at:Fn:=⟨8,2,[
 (.ite (.cmp .lt (.var 1) (.prim .len [(.var 0)])) [(.ret (.idx (.var 0) (.var 1)))] []),
 (.ret (.const (.int 0)))]⟩
noncomputable def f7__law_stream:Fn:=⟨11,2,[
 (.assign 2 (.lst [])),
 (.assign 3 (.bin .add (.bin .mod (.var 0) (.const (.int 2147483647))) (.const (.int 48271)))),
 (.for_ (.one 4) .range1 [(.bin .add (.var 1) (.const (.int 1)))] [(.assign 3 (.bin .mod (.bin .add (.bin .add (.bin .mul (.var 3) (.var 3)) (.bin .mul (.const (.int 48271)) (.var 3))) (.var 4)) (.const (.int 2147483647)))),(.append 2 (.var 3))]),
 (.ret (.slL (.var 2) (.const (.int 1))))]⟩
noncomputable def f7__law_whole:Fn:=⟨7,1,[
 (.ret (.and [(.prim (.isi .int) [(.var 0)]),(.not (.prim (.isi .bool) [(.var 0)]))]))]⟩
noncomputable def f7__law_numbered:Fn:=⟨11,2,[
 (.assign 2 (.lst [])),
 (.for_ (.one 3) .seq [(.var 0)] [(.ite (.cmp .notIn (.prim .abs [(.var 3)]) (.var 2)) [(.append 2 (.prim .abs [(.var 3)]))] [])]),
 (.assign 4 (.comp (.bin .mul (.bin .add (.index (.var 2) (.prim .abs [(.var 5)])) (.const (.int 1))) (.idx (.lst [(.const (.int 1)),(.neg (.const (.int 1)))]) (.prim .intOf [(.cmp .lt (.var 5) (.const (.int 0)))]))) (.one 5) .seq [(.var 0)] [])),
 (.ret (.tup [(.prim .tupleOf [(.var 4)]),(.prim .tupleOf [(.comp (.idx (.var 1) (.var 5)) (.one 5) .seq [(.var 2)] [])])]))]⟩
noncomputable def f7__law_cycles:Fn:=⟨14,2,[
 (.assign 2 (.prim .listRange [(.var 0)])),
 (.for_ (.many [3,4]) .seq [(.var 1)] [(.assign 2 (.bin .add (.bin .add (.slH (.var 2) (.var 3)) (.lst [(.idx (.var 2) (.bin .add (.var 3) (.const (.int 1)))),(.idx (.var 2) (.var 3))])) (.slL (.var 2) (.bin .add (.var 3) (.const (.int 2))))))]),
 (.assign 5 (.prim .listRange [(.var 0)])),
 (.for_ (.one 6) .range1 [(.var 0)] [(.assign 7 (.idx (.var 5) (.idx (.var 2) (.var 6)))),(.assign 5 (.comp (.ite (.cmp .eq (.var 8) (.var 7)) (.idx (.var 5) (.var 6)) (.var 8)) (.one 8) .seq [(.var 5)] []))]),
 (.ret (.var 5))]⟩
noncomputable def f7__law_braid:Fn:=⟨13,2,[
 (.assign 2 (.call 15 false [(.var 0),(.bin .add (.const (.int 2)) (.var 1))])),
 (.assign 3 (.bin .add (.const (.int 1)) (.bin .mod (.idx (.var 2) (.const (.int 0))) (.const (.int 4))))),
 (.assign 4 (.lst [])),
 (.for_ (.one 5) .range1 [(.bin .mul (.bin .mod (.idx (.var 2) (.const (.int 1))) (.bin .add (.var 1) (.const (.int 1)))) (.prim .intOf [(.cmp .gt (.var 3) (.const (.int 1)))]))] [(.append 4 (.tup [(.bin .mod (.idx (.var 2) (.bin .add (.const (.int 2)) (.var 5))) (.prim .max2 [(.const (.int 1)),(.bin .sub (.var 3) (.const (.int 1)))])),(.idx (.lst [(.const (.int 1)),(.neg (.const (.int 1)))]) (.bin .mod (.bin .fdiv (.idx (.var 2) (.bin .add (.const (.int 2)) (.var 5))) (.const (.int 7))) (.const (.int 2))))]))]),
 (.for_ (.one 5) .range1 [(.bin .sub (.var 3) (.const (.int 1)))] [(.assign 6 (.call 18 true [(.var 3),(.var 4)])),(.ite (.cmp .ne (.idx (.var 6) (.var 5)) (.idx (.var 6) (.bin .add (.var 5) (.const (.int 1))))) [(.append 4 (.tup [(.var 5),(.idx (.lst [(.const (.int 1)),(.neg (.const (.int 1)))]) (.bin .mod (.bin .fdiv (.bin .fdiv (.idx (.var 2) (.const (.int 1))) (.const (.int 16))) (.bin .add (.var 5) (.const (.int 1)))) (.const (.int 2))))]))] [])]),
 (.ret (.tup [(.var 3),(.var 4)]))]⟩
noncomputable def f7__law_drawn:Fn:=⟨17,2,[
 (.unpack [2,3] (.call 19 false [(.var 0),(.var 1)])),
 (.assign 4 (.lst [])),
 (.assign 5 (.const (.int 0))),
 (.for_ (.one 6) .range1 [(.var 2)] [(.for_ (.one 7) .range1 [(.prim .len [(.var 3)])] [(.unpack [8,9] (.idx (.var 3) (.var 7))),(.ite (.cmp .eq (.var 5) (.var 8)) [(.append 4 (.bin .mul (.bin .add (.var 7) (.const (.int 1))) (.neg (.var 9)))),(.assign 5 (.bin .add (.var 8) (.const (.int 1))))] [(.ite (.cmp .eq (.var 5) (.bin .add (.var 8) (.const (.int 1)))) [(.append 4 (.bin .mul (.bin .add (.var 7) (.const (.int 1))) (.var 9))),(.assign 5 (.var 8))] [])])])]),
 (.assign 10 (.bin .mod (.bin .mod (.var 0) (.const (.int 1009))) (.prim .max2 [(.const (.int 1)),(.prim .len [(.var 4)])]))),
 (.ret (.call 17 false [(.bin .add (.slL (.var 4) (.var 10)) (.slH (.var 4) (.var 10))),(.bin .add (.lst [(.const (.int 0))]) (.comp (.var 12) (.many [11,12]) .seq [(.var 3)] []))]))]⟩
noncomputable def f7__law_loops:Fn:=⟨17,2,[
 (.assign 2 (.prim .len [(.var 0)])),
 (.assign 3 (.prim .listRange [(.var 2)])),
 (.for_ (.one 4) .seq [(.var 1)] [(.assign 5 (.index (.var 0) (.var 4))),(.assign 6 (.index (.var 0) (.neg (.var 4)))),(.assign 7 (.lst [(.tup [(.var 5),(.var 6)]),(.tup [(.bin .mod (.bin .add (.var 5) (.const (.int 1))) (.var 2)),(.bin .mod (.bin .add (.var 6) (.const (.int 1))) (.var 2))])])),(.ite (.idx (.var 1) (.var 4)) [(.assign 7 (.lst [(.tup [(.var 5),(.bin .mod (.bin .add (.var 6) (.const (.int 1))) (.var 2))]),(.tup [(.var 6),(.bin .mod (.bin .add (.var 5) (.const (.int 1))) (.var 2))])]))] []),(.for_ (.many [8,9]) .seq [(.var 7)] [(.assign 10 (.idx (.var 3) (.var 8))),(.assign 3 (.comp (.ite (.cmp .eq (.var 11) (.var 10)) (.idx (.var 3) (.var 9)) (.var 11)) (.one 11) .seq [(.var 3)] []))])]),
 (.ret (.prim .lenSet [(.var 3)]))]⟩
noncomputable def f7__law_reckoned:Fn:=⟨20,1,[
 (.unpack [1,2] (.var 0)),
 (.ite (.cmp .eq (.var 2) (.tup [])) [(.ret (.tup [(.tup [(.const (.int 0)),(.const (.int 1))])]))] []),
 (.assign 3 .dct0),
 (.assign 4 (.lst [(.lst [])])),
 (.for_ (.one 5) .range1 [(.prim .len [(.var 2)])] [(.assign 4 (.bin .add (.comp (.bin .add (.var 14) (.lst [(.const (.bool true))])) (.one 14) .seq [(.var 4)] []) (.comp (.bin .add (.var 14) (.lst [(.const (.bool false))])) (.one 14) .seq [(.var 4)] [])))]),
 (.for_ (.one 6) .seq [(.var 4)] [(.assign 7 .dct0),(.assign 8 (.const (.int 0))),(.for_ (.one 5) .range1 [(.prim .len [(.var 2)])] [(.setItem 7 (.bin .add (.var 5) (.const (.int 1))) (.idx (.var 6) (.var 5))),(.assign 8 (.bin .add (.var 8) (.idx (.lst [(.neg (.idx (.var 2) (.var 5))),(.idx (.var 2) (.var 5))]) (.prim .intOf [(.idx (.var 6) (.var 5))]))))]),(.assign 9 (.bin .sub (.call 21 true [(.var 1),(.var 7)]) (.const (.int 1)))),(.assign 10 (.idx (.lst [(.const (.int 1)),(.neg (.const (.int 1)))]) (.bin .mod (.var 9) (.const (.int 2))))),(.for_ (.one 11) .range1 [(.bin .add (.var 9) (.const (.int 1)))] [(.assign 12 (.bin .add (.bin .sub (.var 8) (.bin .mul (.const (.int 2)) (.var 9))) (.bin .mul (.const (.int 4)) (.var 11)))),(.setItem 3 (.var 12) (.bin .add (.get (.var 3) (.var 12) 0) (.var 10))),(.assign 10 (.bin .fdiv (.bin .mul (.var 10) (.bin .sub (.var 9) (.var 11))) (.bin .add (.var 11) (.const (.int 1)))))])]),
 (.assign 13 (.prim .sum [(.var 2)])),
 (.ret (.prim .tupleOf [(.comp (.tup [(.bin .sub (.var 14) (.bin .mul (.const (.int 3)) (.var 13))),(.bin .mul (.idx (.var 3) (.var 14)) (.idx (.lst [(.const (.int 1)),(.neg (.const (.int 1)))]) (.bin .mod (.var 13) (.const (.int 2)))))]) (.one 14) .seq [(.prim .sorted [(.var 3)])] [(.cmp .ne (.idx (.var 3) (.var 14)) (.const (.int 0)))])]))]⟩
noncomputable def f7__law_kinks:Fn:=⟨9,1,[
 (.assign 1 (.lst [])),
 (.for_ (.one 2) .range2 [(.const (.int 1)),(.bin .add (.var 0) (.const (.int 1)))] [(.assign 1 (.bin .add (.var 1) (.lst [(.var 2),(.neg (.var 2))])))]),
 (.ret (.tup [(.prim .tupleOf [(.var 1)]),(.bin .mul (.tup [(.const (.int 1))]) (.var 0))]))]⟩
noncomputable def f7__law_refused:Fn:=⟨8,1,[
 (.tryR 13 [(.var 0)]),
 (.ret (.const (.bool false)))]⟩
noncomputable def f7_law:Fn:=⟨10,1,[
 (.assign 1 (.call 20 false [(.call 14 false [(.var 0),(.const (.int 0))]),(.const (.int 5))])),
 (.assign 2 (.call 13 false [(.var 1)])),
 (.ite (.or [(.not (.prim (.isi .tuple) [(.var 2)])),(.cmp .ne (.var 2) (.call 22 false [(.var 1)]))]) [(.ret (.const (.bool false)))] []),
 (.for_ (.one 3) .seq [(.var 2)] [(.ite (.or [(.not (.prim (.isi .tuple) [(.var 3)])),(.not (.call 16 false [(.idx (.var 3) (.const (.int 0)))])),(.not (.call 16 false [(.idx (.var 3) (.const (.int 1)))]))]) [(.ret (.const (.bool false)))] [])]),
 (.ite (.and [(.cmp .eq (.bin .mod (.call 14 false [(.var 0),(.const (.int 1))]) (.const (.int 32))) (.const (.int 1))),(.cmp .ne (.call 13 false [(.call 23 false [(.bin .add (.const (.int 9)) (.bin .mod (.bin .fdiv (.call 14 false [(.var 0),(.const (.int 1))]) (.const (.int 32))) (.const (.int 2))))])]) (.tup [(.tup [(.const (.int 0)),(.const (.int 1))])]))]) [(.ret (.const (.bool false)))] []),
 (.ret (.and [(.call 24 false [(.call 23 false [(.bin .add (.const (.int 11)) (.bin .mod (.call 14 false [(.var 0),(.const (.int 1))]) (.const (.int 30))))])]),(.cmp .eq (.call 13 false [(.var 1)]) (.var 2))]))]⟩
noncomputable def f7_all:List Fn:=[f7_side_behind,f7_face_of,f7_face_count,f7_is_number,f7_turns_of,f7_are_passes,f7_is_drawing,f7_need_drawing,f7_gaps_at,f7_joins_of,f7_loops_of,f7_openings,f7_spread,f7_reckoned,f7__law_cell_at,f7__law_stream,f7__law_whole,f7__law_numbered,f7__law_cycles,f7__law_braid,f7__law_drawn,f7__law_loops,f7__law_reckoned,f7__law_kinks,f7__law_refused,f7_law]
end Mine.Internal
end
section
namespace Mine.Internal
open PySem
noncomputable def cf:List (Int×Int)->Int->Int
 | [],_=>0
 | q::L,p=>(if q.1=p then q.2 else 0)+cf L p
noncomputable def zget:List (Int×Int)->Int->Option Int
 | [],_=>none
 | q::L,k=>if q.1=k then some q.2 else zget L k
noncomputable def acc:List (Int×Int)->Int->Int->List (Int×Int)
 | [],k,v=>[(k,0+v)]
 | q::L,k,v=>if q.1=k then (q.1,q.2+v)::L else q::acc L k v
noncomputable def ks (L:List (Int×Int)):List Int:=L.map (·.1)
noncomputable def accs (L:List (Int×Int)) (qs:List (Int×Int)):List (Int×Int):=qs.foldl (fun L q=>acc L q.1 q.2) L
section
variable {L M:List (Int×Int)} {k v p:Int} {q:Int×Int}
theorem cfN:cf [] p=0:=rfl
theorem cfC:cf (q::L) p=(if q.1=p then q.2 else 0)+cf L p:=rfl
theorem zgetC:zget (q::L) k=if q.1=k then some q.2 else zget L k:=rfl
theorem accC:acc (q::L) k v=if q.1=k then (q.1,q.2+v)::L else q::acc L k v:=rfl
theorem cf_app:∀ {L M:List (Int×Int)},cf (L++M) p=cf L p+cf M p
 | [],M=>(Int.zero_add _).symm
 | q::L,M=>by rw [List.cons_append,cfC,cfC,cf_app,Int.add_assoc]
theorem cf_acc:∀ {L:List (Int×Int)},cf (acc L k v) p=cf L p+if k=p then v else 0
 | []=>by show (if k=p then 0+v else 0)+0=0+_;split;exact Int.add_zero _;rfl
 | q::L=>by
  rw [accC]
  split
  ·rename_i h;rw [cfC,cfC,h];by_cases e:k=p;· simp only [if_pos e];exact Int.add_right_comm ..
   simp only [if_neg e];exact (Int.add_zero _).symm
  ·rw [cfC,cfC,cf_acc];exact y129
theorem cf_accs:∀ {qs L:List (Int×Int)},cf (accs L qs) p=cf L p+cf qs p
 | [],L=>(Int.add_zero _).symm
 | q::qs,L=>by show cf (accs (acc L q.1 q.2) qs) p=_;rw [cf_accs,cf_acc,cfC];exact y126
theorem ks_acc:∀ {L:List (Int×Int)},ks (acc L k v)=if k∈ks L then ks L else ks L++[k]
 | []=>rfl
 | q::L=>by
  rw [accC]
  by_cases h:q.1=k
  ·rw [if_pos h,if_pos (show k∈ks (q::L) from h ▸ List.mem_cons_self)];rfl
  ·rw [if_neg h]
   show q.1::ks (acc L k v)=_
   rw [ks_acc]
   by_cases h2:k∈ks L
   ·rw [if_pos h2,if_pos (show k∈ks (q::L) from List.mem_cons_of_mem _ h2)];rfl
   ·rw [if_neg h2,if_neg (show k∉ks (q::L) from fun z=>(List.mem_cons.1 z).elim (fun e=>h e.symm) h2)];rfl
theorem acc_nd (h:(ks L).Nodup):(ks (acc L k v)).Nodup:=by
 rw [ks_acc]
 by_cases h2:k∈ks L
 ·rw [if_pos h2];exact h
 ·rw [if_neg h2]
  exact List.nodup_append.2 ⟨h,List.nodup_cons.2 ⟨List.not_mem_nil,List.nodup_nil⟩,fun a ha b hb e=>h2 (by rw [<-List.mem_singleton.1 hb,<-e];exact ha)⟩
theorem mem_acc (h:p∈ks (acc L k v)):p∈ks L\/p=k:=by
 rw [ks_acc] at h
 split at h
 ·exact .inl h
 ·exact (List.mem_append.1 h).imp_right List.mem_singleton.1
theorem accs_nd:∀ {qs L:List (Int×Int)},(ks L).Nodup->(ks (accs L qs)).Nodup
 | [],_,h=>h
 | q::qs,L,h=>accs_nd (L:=acc L q.1 q.2) (qs:=qs) (acc_nd h)
theorem mem_accs:∀ {qs L:List (Int×Int)},p∈ks (accs L qs)->p∈ks L\/p∈ks qs
 | [],_,h=>.inl h
 | q::qs,L,h=>(mem_accs (L:=acc L q.1 q.2) (qs:=qs) h).elim (fun h=>(mem_acc h).imp_right fun (e:p=q.1)=>e ▸ List.mem_cons_self) fun h=>.inr (List.mem_cons_of_mem _ h)
theorem cf_zero:∀ {L:List (Int×Int)},p∉ks L->cf L p=0
 | [],_=>rfl
 | q::L,h=>by
  rw [cfC,if_neg (fun (e:q.1=p)=>h (e ▸ List.mem_cons_self)),cf_zero fun z=>h (List.mem_cons_of_mem _ z)];rfl
theorem zget_cf:∀ {L:List (Int×Int)},(ks L).Nodup->(zget L p).getD 0=cf L p
 | [],_=>rfl
 | q::L,h=>by
  have h:=List.nodup_cons.1 h
  rw [zgetC,cfC]
  by_cases e:q.1=p
  ·rw [if_pos e,if_pos e,cf_zero (e ▸ h.1),Int.add_zero];rfl
  ·rw [if_neg e,if_neg e,zget_cf h.2,Int.zero_add]
theorem zget_mem:∀ {L:List (Int×Int)},p∈ks L->∃ v,zget L p=some v
 | [],h=>absurd h List.not_mem_nil
 | q::L,h=>by
  rw [zgetC]
  by_cases e:q.1=p
  ·exact ⟨_,if_pos e⟩
  ·rw [if_neg e];exact zget_mem ((List.mem_cons.1 h).resolve_left fun z=>e z.symm)
theorem zget_at:∀ {L:List (Int×Int)},(ks L).Nodup->q∈L->zget L q.1=some q.2
 | r::L,h,m=>by
  have h:=List.nodup_cons.1 h
  rw [zgetC]
  rcases List.mem_cons.1 m with rfl | m
  ·exact if_pos rfl
  ·rw [if_neg (fun (e:r.1=q.1)=>h.1 (List.mem_map.2 ⟨q,m,e.symm⟩))];exact zget_at h.2 m
end
noncomputable def spr (L:List (Int×Int)):List (Int×Int):=accs [] (L.flatMap fun q=>[(q.1+2,-q.2),(q.1-2,-q.2)])
noncomputable def sprN:Nat->List (Int×Int)->List (Int×Int)
 | 0,L=>L
 | k+1,L=>spr (sprN k L)
noncomputable def S (f:Int->Int) (p:Int):Int:=-f (p-2)-f (p+2)
noncomputable def SN:Nat->(Int->Int)->Int->Int
 | 0,f=>f
 | k+1,f=>S (SN k f)
noncomputable def Dl (q c p:Int):Int:=if q=p then c else 0
section
variable {L:List (Int×Int)} {p q c:Int} {k:Nat}
theorem cf_two:∀ {L:List (Int×Int)},cf (L.flatMap fun q=>[(q.1+2,-q.2),(q.1-2,-q.2)]) p=S (cf L) p
 | []=>rfl
 | r::L=>by
  rw [List.flatMap_cons,cf_app,cf_two]
  show (if r.1+2=p then -r.2 else 0)+((if r.1-2=p then -r.2 else 0)+0)+(-cf L (p-2)-cf L (p+2))=-((if r.1=p-2 then r.2 else 0)+cf L (p-2))-((if r.1=p+2 then r.2 else 0)+cf L (p+2))
  have h1:(r.1+2=p)=(r.1=p-2):=propext ⟨fun h=>by exact y130 h,fun h=>by exact y131 h⟩
  have h2:(r.1-2=p)=(r.1=p+2):=propext ⟨fun h=>by exact y132 h,fun h=>by exact y134 h⟩
  simp only [h1,h2]
  split<;>split<;>(first | exact y136 | exact y138 | exact y139 | exact y143)
theorem cf_spr:cf (spr L) p=S (cf L) p:=by unfold spr;rw [cf_accs,cf_two,cfN,Int.zero_add]
theorem cf_sprN:∀ {k:Nat},cf (sprN k L)=SN k (cf L)
 | 0=>rfl
 | k+1=>by
  funext p
  show cf (spr (sprN k L)) p=S (SN k (cf L)) p
  rw [cf_spr,cf_sprN]
theorem cf_one:cf [(q,c)]=Dl q c:=by funext p;exact Int.add_zero _
theorem S_mul {f:Int->Int}:S (fun p=>c*f p)=fun p=>c*S f p:=by
 funext p
 show -(c*f (p-2))-c*f (p+2)=c*(-f (p-2)-f (p+2))
 rw [Int.mul_sub,Int.mul_neg]
theorem SN_mul {f:Int->Int}:∀ {k:Nat},SN k (fun p=>c*f p)=fun p=>c*SN k f p
 | 0=>rfl
 | k+1=>by show S (SN k _)=fun p=>c*S (SN k f) p;rw [SN_mul,S_mul]
theorem Dl_mul:Dl q c=fun p=>c*Dl q 1 p:=by
 funext p;unfold Dl;split
 ·rw [Int.mul_one]
 ·rw [Int.mul_zero]
noncomputable def wt (p:Int) (s:Int×Nat):Int:=SN (s.2-1) (Dl s.1 1) p
theorem cf_term:cf (sprN k [(q,c)]) p=c*SN k (Dl q 1) p:=by rw [cf_sprN,cf_one,Dl_mul,SN_mul]
theorem spr_nd:(ks (spr L)).Nodup:=accs_nd List.nodup_nil
theorem sprN_nd (h:(ks L).Nodup):∀ {k:Nat},(ks (sprN k L)).Nodup
 | 0=>h
 | k+1=>spr_nd
theorem mem_spr (h:p∈ks (spr L)):p-2∈ks L\/p+2∈ks L:=by
 rcases mem_accs h with h | h
 ·exact absurd h List.not_mem_nil
 ·obtain ⟨r,hr,e⟩:=List.mem_map.1 h
  obtain ⟨t,ht,hr⟩:=List.mem_flatMap.1 hr
  simp only [List.mem_cons,List.not_mem_nil,or_false] at hr
  rcases hr with rfl | rfl
  ·left;rw [<-e,show t.1+2-2=t.1 by exact y133];exact List.mem_map_of_mem ht
  ·right;rw [<-e,show t.1-2+2=t.1 by exact y135];exact List.mem_map_of_mem ht
theorem mem_sprN:∀ {k:Nat} {p:Int},p∈ks (sprN k [(q,c)])->q-2*k<=p/\p<=q+2*k/\(p-q) % 2=0
 | 0,p,h=>by have:p=q:=List.mem_singleton.1 h;exact yv49 this
 | k+1,p,h=>by
  rcases mem_spr h with h | h
  ·have:=mem_sprN h;exact yv52 this.1 this.2.1 this.2.2
  ·have:=mem_sprN h;exact yv54 this.1 this.2.1 this.2.2
theorem S_le {f:Int->Int} {b:Nat} (h:∀ p,(f p).natAbs<=b) (p:Int):(S f p).natAbs<=2*b:=by
 have h1:=h (p-2);have h2:=h (p+2)
 unfold S;exact yv50 h1 h2
theorem SN_le:∀ {k:Nat} {p:Int},(SN k (Dl q 1) p).natAbs<=2 ^ k
 | 0,p=>by show (if q=p then (1:Int) else 0).natAbs<=1;split<;>decide
 | k+1,p=>by
  have:=S_le (f:=SN k (Dl q 1)) (b:=2 ^ k) (fun p=>SN_le) p
  rw [Nat.pow_succ,Nat.mul_comm];exact this
end
noncomputable def cadd:List ((Int×Nat)×Int)->Int×Nat->List ((Int×Nat)×Int)
 | [],k=>[(k,0+1)]
 | q::C,k=>if q.1=k then (q.1,q.2+1)::C else q::cadd C k
noncomputable def cget:List ((Int×Nat)×Int)->Int×Nat->Option Int
 | [],_=>none
 | q::C,k=>if q.1=k then some q.2 else cget C k
noncomputable def wsum (g:Int×Nat->Int):List ((Int×Nat)×Int)->Int
 | []=>0
 | q::C=>q.2*g q.1+wsum g C
noncomputable def sm {α:Type} (g:α->Int):List α->Int
 | []=>0
 | a::l=>g a+sm g l
section
variable {g:Int×Nat->Int} {k:Int×Nat}
theorem caddC {q:(Int×Nat)×Int} {C:List ((Int×Nat)×Int)}:cadd (q::C) k=if q.1=k then (q.1,q.2+1)::C else q::cadd C k:=rfl
theorem cgetC {q:(Int×Nat)×Int} {C:List ((Int×Nat)×Int)}:cget (q::C) k=if q.1=k then some q.2 else cget C k:=rfl
theorem wsum_cadd:∀ {C:List ((Int×Nat)×Int)},wsum g (cadd C k)=wsum g C+g k
 | []=>by show (0+1)*g k+0=0+g k;rw [Int.zero_add,Int.one_mul,Int.add_zero,Int.zero_add]
 | q::C=>by
  rw [caddC]
  split
  ·rename_i h
   show (q.2+1)*g q.1+wsum g C=q.2*g q.1+wsum g C+g k
   rw [Int.add_mul,h];exact y140
  ·show q.2*g q.1+wsum g (cadd C k)=q.2*g q.1+wsum g C+g k
   rw [wsum_cadd];exact y129
theorem wsum_all:∀ {l:List (Int×Nat)} {C:List ((Int×Nat)×Int)},wsum g (l.foldl cadd C)=wsum g C+sm g l
 | [],C=>(Int.add_zero _).symm
 | k::l,C=>by show wsum g (l.foldl cadd (cadd C k))=wsum g C+(g k+sm g l);rw [wsum_all,wsum_cadd];exact y126
theorem mem_cadd:∀ {C:List ((Int×Nat)×Int)} {x:Int×Nat},x∈(cadd C k).map (·.1)->x∈C.map (·.1)\/x=k
 | [],x,h=>.inr (List.mem_singleton.1 h)
 | q::C,x,h=>by
  rw [caddC] at h
  split at h
  ·exact .inl h
  ·rcases List.mem_cons.1 h with h | h
   ·exact .inl (h ▸ List.mem_cons_self)
   ·exact (mem_cadd h).imp_left (List.mem_cons_of_mem _)
theorem cadd_nd:∀ {C:List ((Int×Nat)×Int)},(C.map (·.1)).Nodup->((cadd C k).map (·.1)).Nodup
 | [],_=>List.nodup_cons.2 ⟨List.not_mem_nil,List.nodup_nil⟩
 | q::C,h=>by
  have h:=List.nodup_cons.1 h
  rw [caddC]
  by_cases e:q.1=k
  ·rw [if_pos e];exact List.nodup_cons.2 h
  ·rw [if_neg e]
   exact List.nodup_cons.2 ⟨fun z=>(mem_cadd z).elim h.1 e,cadd_nd h.2⟩
theorem cget_at:∀ {C:List ((Int×Nat)×Int)} {q:(Int×Nat)×Int},(C.map (·.1)).Nodup->q∈C->cget C q.1=some q.2
 | r::C,q,h,m=>by
  have h:=List.nodup_cons.1 h
  rw [cgetC]
  rcases List.mem_cons.1 m with rfl | m
  ·exact if_pos rfl
  ·rw [if_neg (fun (e:r.1=q.1)=>h.1 (List.mem_map.2 ⟨q,m,e.symm⟩))];exact cget_at h.2 m
theorem foldl_cadd:∀ {l:List (Int×Nat)} {C:List ((Int×Nat)×Int)},(C.map (·.1)).Nodup->((l.foldl cadd C).map (·.1)).Nodup/\∀ x∈(l.foldl cadd C).map (·.1),x∈C.map (·.1)\/x∈l
 | [],C,h=>⟨h,fun x hx=>.inl hx⟩
 | k::l,C,h=>by
  have:=foldl_cadd (l:=l) (C:=cadd C k) (cadd_nd h)
  refine ⟨this.1,fun x hx=>?_⟩
  rcases this.2 x hx with h | h
  ·exact (mem_cadd h).imp_right fun (e:x=k)=>e ▸ List.mem_cons_self
  ·exact .inr (List.mem_cons_of_mem _ h)
theorem sm_map {α β:Type} {g:β->Int} {f:α->β}:∀ {l:List α},sm g (l.map f)=sm (fun a=>g (f a)) l
 | []=>rfl
 | a::l=>by show g (f a)+sm g (l.map f)=_;rw [sm_map];rfl
theorem sm_app {α:Type} {g:α->Int}:∀ {l m:List α},sm g (l++m)=sm g l+sm g m
 | [],m=>(Int.zero_add _).symm
 | a::l,m=>by show g a+sm g (l++m)=g a+sm g l+sm g m;rw [sm_app];exact y129
theorem sm_add {α:Type} {g h:α->Int}:∀ {l:List α},sm (fun a=>g a+h a) l=sm g l+sm h l
 | []=>rfl
 | a::l=>by show g a+h a+sm _ l=g a+sm g l+(h a+sm h l);rw [sm_add];exact y142
theorem sm_two {α β:Type} {g:β->Int} {e f:α->β}:∀ {l:List α},sm g (l.flatMap fun a=>[e a,f a])=sm (fun a=>g (e a)+g (f a)) l
 | []=>rfl
 | a::l=>by rw [List.flatMap_cons,sm_app,sm_two];show g (e a)+(g (f a)+0)+_=g (e a)+g (f a)+_;exact y141
theorem sm_congr {α:Type} {g h:α->Int}:∀ {l:List α},(∀ a∈l,g a=h a)->sm g l=sm h l
 | [],_=>rfl
 | a::l,e=>by show g a+sm g l=h a+sm h l;rw [e a List.mem_cons_self,sm_congr fun b hb=>e b (List.mem_cons_of_mem _ hb)]
theorem sm_le {α:Type} {g:α->Int} {b:Nat}:∀ {l:List α},(∀ a∈l,(g a).natAbs<=b)->(sm g l).natAbs<=l.length*b
 | [],_=>Nat.zero_le _
 | a::l,h=>by
  have h1:=h a List.mem_cons_self
  have h2:=sm_le fun b hb=>h b (List.mem_cons_of_mem _ hb)
  show (g a+sm g l).natAbs<=(l.length+1)*b
  rw [Nat.succ_mul];exact yv53 h1 h2
end
noncomputable def gath (C:List ((Int×Nat)×Int)):List (Int×Int):=C.foldl (fun F q=>accs F (sprN (q.1.2-1) [(q.1.1,q.2)])) []
theorem cf_fold {α:Type} {f:α->List (Int×Int)} {p:Int}:∀ {l:List α} {F:List (Int×Int)},cf (l.foldl (fun F a=>accs F (f a)) F) p=cf F p+sm (fun a=>cf (f a) p) l
 | [],F=>(Int.add_zero _).symm
 | a::l,F=>by show cf (l.foldl _ (accs F (f a))) p=cf F p+(cf (f a) p+sm _ l);rw [cf_fold,cf_accs];exact y126
theorem cf_gath {l:List (Int×Nat)} {p:Int}:cf (gath (l.foldl cadd [])) p=sm (wt p) l:=by
 unfold gath
 rw [cf_fold,cfN,Int.zero_add]
 have:∀ C:List ((Int×Nat)×Int),sm (fun q=>cf (sprN (q.1.2-1) [(q.1.1,q.2)]) p) C=wsum (wt p) C:=fun C=>by
  induction C with
  | nil=>rfl
  | cons q C ih=>show cf (sprN (q.1.2-1) [(q.1.1,q.2)]) p+sm _ C=q.2*wt p q.1+wsum (wt p) C;rw [ih,cf_term];rfl
 rw [this,wsum_all];exact Int.zero_add _
noncomputable def num (L:Nat):Nat->Int
 | 0=>if L % 2=0 then 1 else -1
 | k+1=>Int.fdiv (num L k*((L:Int)-k)) ((k:Int)+1)
noncomputable def lawL (q:Int) (L:Nat):List (Int×Int):=(List.range (L+1)).map fun (k:Nat)=>(q-2*L+4*(k:Int),num L k)
noncomputable def pr:List Int->Int->Int->Int
 | [],_,_=>0
 | c::r,b,p=>(if b=p then c else 0)+pr r (b+4) p
noncomputable def nr:Int->List Int->List Int
 | a,[]=>[-a]
 | a,c::r=>-(a+c)::nr c r
noncomputable def rowB:Nat->List Int
 | 0=>[1]
 | L+1=>nr 0 (rowB L)
theorem pr_nr {p:Int}:∀ {r:List Int} {a b:Int},pr (nr a r) b p=-(if b=p then a else 0)-pr r b p-pr r (b+4) p
 | [],a,b=>by show (if b=p then -a else 0)+0=-(if b=p then a else 0)-0-0;split<;>(first | exact y145 | exact y148)
 | c::r,a,b=>by
  show (if b=p then -(a+c) else 0)+pr (nr c r) (b+4) p=-(if b=p then a else 0)-((if b=p then c else 0)+pr r (b+4) p)-((if b+4=p then c else 0)+pr r (b+4+4) p)
  rw [pr_nr]
  split<;>split<;>(first | exact y153 | exact y155 | exact y157 | exact y159)
theorem pr_sh {p d:Int}:∀ {r:List Int} {b:Int},pr r b (p-d)=pr r (b+d) p
 | [],_=>rfl
 | c::r,b=>by
  show (if b=p-d then c else 0)+pr r (b+4) (p-d)=(if b+d=p then c else 0)+pr r (b+d+4) p
  rw [pr_sh,show b+4+d=b+d+4 by exact y144]
  by_cases h:b=p-d
  ·rw [if_pos h,if_pos (by exact y147 h)]
  ·rw [if_neg h,if_neg (by exact y149 h)]
theorem pr_row {q:Int}:∀ {L:Nat} {p:Int},pr (rowB L) (q-2*L) p=SN L (Dl q 1) p
 | 0,p=>by show (if q-2*(0:Nat)=p then 1 else 0)+0=if q=p then 1 else 0;rw [show q-2*((0:Nat):Int)=q by exact y146,Int.add_zero]
 | L+1,p=>by
  show pr (nr 0 (rowB L)) (q-2*((L+1:Nat):Int)) p=-SN L (Dl q 1) (p-2)-SN L (Dl q 1) (p+2)
  rw [pr_nr,<-pr_row,<-pr_row,pr_sh,show p+2=p-(-2) by exact y152,pr_sh,show q-2*((L+1:Nat):Int)+4=q-2*(L:Int)+2 by exact y154,show q-2*((L+1:Nat):Int)=q-2*(L:Int)+-2 by exact y156]
  split<;>exact y158
theorem cf_range {q:Int} {f:Nat->Int} {p:Int}:∀ {n a:Nat},cf ((List.range' a n).map fun (k:Nat)=>(q+4*(k:Int),f k)) p=pr ((List.range' a n).map f) (q+4*(a:Int)) p
 | 0,_=>rfl
 | n+1,a=>by
  show (if q+4*(a:Int)=p then f a else 0)+cf ((List.range' (a+1) n).map _) p=(if q+4*(a:Int)=p then f a else 0)+pr ((List.range' (a+1) n).map f) (q+4*(a:Int)+4) p
  rw [cf_range,show q+4*((a+1:Nat):Int)=q+4*(a:Int)+4 by exact y150]
theorem num_row:∀ L < 20,(List.range' 0 (L+1)).map (num L)=rowB L:=by decide +kernel
theorem num_le:∀ L < 20,∀ k < 20,(num L k).natAbs<=1000000:=by decide +kernel
theorem cf_law {q p:Int} {L:Nat} (h:L < 20):cf (lawL q L) p=SN L (Dl q 1) p:=by
 unfold lawL
 rw [List.range_eq_range',cf_range (q:=q-2*L),num_row L h,show q-2*(L:Int)+4*((0:Nat):Int)=q-2*(L:Int) by exact y151,pr_row]
end Mine.Internal
end
section
namespace Mine.Internal
open PySem
noncomputable def bsF:Nat->List (List Bool)
 | 0=>[[]]
 | k+1=>(bsF k).flatMap fun s=>[s++[true],s++[false]]
noncomputable def bsL:Nat->List (List Bool)
 | 0=>[[]]
 | k+1=>(bsL k).map (fun s=>s++[true])++(bsL k).map (fun s=>s++[false])
theorem sum_bs:∀ {n:Nat} {G:List Bool->Int},sm G (bsF n)=sm G (bsL n)
 | 0,_=>rfl
 | n+1,G=>by
  show sm G ((bsF n).flatMap fun s=>[s++[true],s++[false]])=sm G ((bsL n).map (fun s=>s++[true])++(bsL n).map (fun s=>s++[false]))
  rw [sm_two,sum_bs,sm_add,sm_app,sm_map,sm_map]
theorem bsL_len:∀ {n:Nat},(bsL n).length=2 ^ n
 | 0=>rfl
 | n+1=>by
  show ((bsL n).map (fun s=>s++[true])++(bsL n).map (fun s=>s++[false])).length=_
  rw [List.length_append,List.length_map,List.length_map,bsL_len,Nat.pow_succ,Nat.mul_two]
theorem mem_bsL:∀ {n:Nat} {s:List Bool},s∈bsL n->s.length=n
 | 0,s,h=>by rw [List.mem_singleton.1 h];rfl
 | n+1,s,h=>by
  rcases List.mem_append.1 h with h | h<;>obtain ⟨t,ht,rfl⟩:=List.mem_map.1 h<;>rw [List.length_append,mem_bsL ht]<;>rfl
theorem mem_bsF:∀ {n:Nat} {s:List Bool},s∈bsF n->s.length=n
 | 0,s,h=>by rw [List.mem_singleton.1 h];rfl
 | n+1,s,h=>by
  obtain ⟨t,ht,h⟩:=List.mem_flatMap.1 h
  simp only [List.mem_cons,List.not_mem_nil,or_false] at h
  rcases h with rfl | rfl<;>rw [List.length_append,mem_bsF ht]<;>rfl
theorem bsF_len:∀ {n:Nat},(bsF n).length=2 ^ n
 | 0=>rfl
 | n+1=>by
  have:∀ l:List (List Bool),(l.flatMap fun s=>[s++[true],s++[false]]).length=2*l.length:=fun l=>by
   induction l with
   | nil=>rfl
   | cons a l ih=>rw [List.flatMap_cons,List.length_append,ih,List.length_cons (as:=l)];show 2+2*l.length=_;exact y49
  show ((bsF n).flatMap fun s=>[s++[true],s++[false]]).length=_
  rw [this,bsF_len,Nat.pow_succ,Nat.mul_comm]
noncomputable def pw (t:Nat->Int) (s:List Bool):Int:=sm (fun q=>if q.1 then t q.2 else -t q.2) s.zipIdx
noncomputable def jn (J:Nat->Bool->List (Nat×Nat)) (s:List Bool):List (Nat×Nat):=s.zipIdx.flatMap fun q=>J q.2 q.1
theorem pw_snoc {t:Nat->Int} {s:List Bool} {b:Bool}:pw t (s++[b])=pw t s+if b then t s.length else -t s.length:=by
 unfold pw
 rw [List.zipIdx_append,sm_app]
 show _+((if b then t (0+s.length) else -t (0+s.length))+0)=_
 rw [Nat.zero_add,Int.add_zero]
theorem jn_snoc {J:Nat->Bool->List (Nat×Nat)} {s:List Bool} {b:Bool}:jn J (s++[b])=jn J s++J s.length b:=by
 unfold jn
 rw [List.zipIdx_append,List.flatMap_append]
 show _++(J (0+s.length) b++[])=_
 rw [Nat.zero_add,List.append_nil]
theorem pw_le {t:Nat->Int} {s:List Bool} (h:∀ i,i < s.length->t i=1\/t i=-1):-(s.length:Int)<=pw t s/\pw t s<=s.length/\(pw t s-s.length) % 2=0:=by
 have:∀ (l:List (Bool×Nat)),(∀ q∈l,t q.2=1\/t q.2=-1)->-(l.length:Int)<=sm (fun q=>if q.1 then t q.2 else -t q.2) l/\sm (fun q=>if q.1 then t q.2 else -t q.2) l<=l.length/\(sm (fun q=>if q.1 then t q.2 else -t q.2) l-l.length) % 2=0:=fun l=>by
  induction l with
  | nil=>exact fun _=>⟨Int.le_refl 0,Int.le_refl 0,rfl⟩
  | cons q l ih=>
   intro hl
   have ih:=ih fun r hr=>hl r (List.mem_cons_of_mem _ hr)
   show -((l.length+1:Nat):Int)<=(if q.1 then t q.2 else -t q.2)+sm _ l/\(if q.1 then t q.2 else -t q.2)+sm _ l<=((l.length+1:Nat):Int)/\((if q.1 then t q.2 else -t q.2)+sm _ l-((l.length+1:Nat):Int)) % 2=0
   generalize sm (fun q=>if q.1 then t q.2 else -t q.2) l=x at *
   have:=hl q List.mem_cons_self
   cases q.1<;>simp only [Bool.false_eq_true,if_false,if_true]<;>(first | exact yv55 ih.1 ih.2.1 ih.2.2 this | exact yv56 ih.1 ih.2.1 ih.2.2 this)
 have:=this s.zipIdx fun q hq=>h _ (by have:=List.snd_lt_of_mem_zipIdx hq;exact y160 this)
 rw [List.length_zipIdx] at this
 exact this
noncomputable def mg (g:List Int) (a b:Nat):List Int:=if g.getD a 0≠g.getD b 0 then g.map (fun x=>if x=g.getD b 0 then g.getD a 0 else x) else g
noncomputable def mh (h:List Int) (a b:Nat):List Int:=h.map (fun x=>if x=h.getD a 0 then h.getD b 0 else x)
noncomputable def mgs (g:List Int) (l:List (Nat×Nat)):List Int:=l.foldl (fun g q=>mg g q.1 q.2) g
noncomputable def mhs (g:List Int) (l:List (Nat×Nat)):List Int:=l.foldl (fun g q=>mh g q.1 q.2) g
structure SameK (g h:List Int):Prop where
 len:g.length=h.length
 same:∀ i j,i < g.length->j < g.length->(g.getD i 0=g.getD j 0↔h.getD i 0=h.getD j 0)
theorem getD_map {l:List Int} {f:Int->Int} {i:Nat} (h:i < l.length):(l.map f).getD i 0=f (l.getD i 0):=by
 rw [List.getD_eq_getElem?_getD,List.getD_eq_getElem?_getD,List.getElem?_map,List.getElem?_eq_getElem h];rfl
theorem mg_len {g:List Int} {a b:Nat}:(mg g a b).length=g.length:=by
 unfold mg;split
 ·exact List.length_map ..
 ·rfl
theorem mh_len {g:List Int} {a b:Nat}:(mh g a b).length=g.length:=List.length_map ..
theorem mg_at {g:List Int} {a b i:Nat} (h:i < g.length):(mg g a b).getD i 0=if g.getD i 0=g.getD b 0 then g.getD a 0 else g.getD i 0:=by
 unfold mg
 by_cases e:g.getD a 0=g.getD b 0
 ·rw [if_neg fun z=>z e];split
  ·rename_i e2;rw [e2,e]
  ·rfl
 ·rw [if_pos e,getD_map h]
theorem mh_at {g:List Int} {a b i:Nat} (h:i < g.length):(mh g a b).getD i 0=if g.getD i 0=g.getD a 0 then g.getD b 0 else g.getD i 0:=getD_map h
theorem same_step {g h:List Int} {a b:Nat} (k:SameK g h) (ha:a < g.length) (hb:b < g.length):SameK (mg g a b) (mh h a b):=by
 refine ⟨by rw [mg_len,mh_len,k.len],fun i j hi hj=>?_⟩
 rw [mg_len] at hi hj
 rw [mg_at hi,mg_at hj,mh_at (k.len ▸ hi),mh_at (k.len ▸ hj)]
 have e1:=k.same i a hi ha;have e2:=k.same j a hj ha;have e3:=k.same i b hi hb;have e4:=k.same j b hj hb
 have e5:=k.same i j hi hj;have e6:=k.same a b ha hb
 generalize g.getD i 0=gi at *;generalize g.getD j 0=gj at *;generalize g.getD a 0=ga at *;generalize g.getD b 0=gb at *
 generalize h.getD i 0=hi' at *;generalize h.getD j 0=hj' at *;generalize h.getD a 0=ha' at *;generalize h.getD b 0=hb' at *
 by_cases c1:gi=gb<;>by_cases c2:gj=gb<;>by_cases c3:hi'=ha'<;>by_cases c4:hj'=ha'<;>simp only [c1,c2,c3,c4,if_true,if_false]<;>grind
theorem same_steps:∀ {l:List (Nat×Nat)} {g h:List Int},SameK g h->(∀ q∈l,q.1 < g.length/\q.2 < g.length)->SameK (mgs g l) (mhs h l)
 | [],_,_,k,_=>k
 | q::l,g,h,k,hl=>same_steps (l:=l) (same_step k (hl q List.mem_cons_self).1 (hl q List.mem_cons_self).2) fun r hr=>by rw [mg_len];exact hl r (List.mem_cons_of_mem _ hr)
theorem mgs_len:∀ {l:List (Nat×Nat)} {g:List Int},(mgs g l).length=g.length
 | [],_=>rfl
 | q::l,g=>by show (mgs (mg g q.1 q.2) l).length=_;rw [mgs_len,mg_len]
theorem mhs_len:∀ {l:List (Nat×Nat)} {g:List Int},(mhs g l).length=g.length
 | [],_=>rfl
 | q::l,g=>by show (mhs (mh g q.1 q.2) l).length=_;rw [mhs_len,mh_len]
theorem fm_any {f:Nat->Int} {n i:Nat}:(PyProof.Rows.firstMet f n).any (·==f i)=decide (∃ j,j < n/\f j=f i):=by
 rw [PyProof.Rows.firstMet_any,Bool.eq_iff_iff,decide_eq_true_iff,List.any_eq_true]
 constructor
 ·rintro ⟨x,hx,e⟩
  obtain ⟨j,hj,rfl⟩:=List.mem_map.1 hx
  exact ⟨j,List.mem_range.1 hj,beq_iff_eq.1 e⟩
 ·rintro ⟨j,hj,e⟩
  exact ⟨f j,List.mem_map_of_mem (List.mem_range.2 hj),beq_iff_eq.2 e⟩
theorem fm_len {f g:Nat->Int} {m:Nat} (h:∀ i j,i < m->j < m->(f i=f j↔g i=g j)):∀ n,n<=m->(PyProof.Rows.firstMet f n).length=(PyProof.Rows.firstMet g n).length
 | 0,_=>rfl
 | n+1,hn=>by
  rw [PyProof.Rows.firstMet_succ,PyProof.Rows.firstMet_succ]
  unfold PyProof.Rows.step_dedup
  have:(∃ j,j < n/\f j=f n)=(∃ j,j < n/\g j=g n):=propext ⟨fun ⟨j,a,b⟩=>⟨j,a,(h j n (by exact y161 hn a) hn).1 b⟩,fun ⟨j,a,b⟩=>⟨j,a,(h j n (by exact y161 hn a) hn).2 b⟩⟩
  rw [fm_any,fm_any]
  simp only [this]
  have ih:=fm_len h n (by exact y16 hn)
  split
  ·exact ih
  ·rw [List.length_append,List.length_append,ih];rfl
theorem dcnt_same {g h:List Int} (k:SameK g h):dcnt g=dcnt h:=by
 unfold dcnt
 rw [<-k.len]
 exact fm_len k.same _ (Nat.le_refl _)
theorem dcnt_le {g:List Int}:dcnt g<=g.length:=PyProof.Rows.firstMet_length_le _ _
theorem dcnt_pos {g:List Int} (h:0 < g.length):0 < dcnt g:=by
 unfold dcnt
 have:(PyProof.Rows.firstMet (fun i=>g.getD i 0) g.length).any (·==g.getD 0 0)=true:=by
  rw [fm_any (f:=fun i=>g.getD i 0) (i:=0)];exact decide_eq_true ⟨0,h,rfl⟩
 obtain ⟨x,hx,_⟩:=List.any_eq_true.1 this
 exact List.length_pos_of_mem hx
noncomputable def out (L:List (Int×Int)):List Int:=(srt (ks L)).filter fun p=>decide (cf L p≠0)
theorem srt_perm {l:List Int}:(srt l).Perm l:=List.mergeSort_perm ..
theorem srt_le {l:List Int}:(srt l).Pairwise (·<=·):=by
 have:=List.pairwise_mergeSort (le:=fun a b:Int=>decide (a<=b)) (fun a b c h1 h2=>decide_eq_true (Int.le_trans (of_decide_eq_true h1) (of_decide_eq_true h2))) (fun a b=>by
  rcases Int.le_total a b with h | h
  ·rw [decide_eq_true h];rfl
  ·rw [decide_eq_true h,Bool.or_true]) l
 exact this.imp fun h=>of_decide_eq_true h
theorem mem_out {L:List (Int×Int)} {p:Int}:p∈out L↔cf L p≠0:=by
 unfold out
 rw [List.mem_filter,decide_eq_true_iff,srt_perm.mem_iff]
 exact ⟨fun h=>h.2,fun h=>⟨Classical.byContradiction fun q=>h (cf_zero q),h⟩⟩
theorem out_eq {L M:List (Int×Int)} (hL:(ks L).Nodup) (hM:(ks M).Nodup) (h:∀ p,cf L p=cf M p):out L=out M:=by
 have nd:∀ {L:List (Int×Int)},(ks L).Nodup->(out L).Nodup:=fun hL=>(srt_perm.nodup_iff.2 hL).filter _
 refine (((List.perm_ext_iff_of_nodup (nd hL) (nd hM)).2 fun p=>?_).eq_of_pairwise (fun _ _ _ _ a b=>Int.le_antisymm a b) (srt_le.filter _) (srt_le.filter _))
 rw [mem_out,mem_out,h]
theorem few {L:List (Int×Int)} {n:Nat} (h:(ks L).Nodup) (hn:n<=10) (hb:∀ p∈ks L,-(5*n:Int)<=p/\p<=5*n/\(p-n) % 2=0):L.length < 64:=by
 have:(ks L).length<=((List.range (5*n+1)).map fun k:Nat=>-(5*n:Int)+2*(k:Int)).length:=nodup_le h fun p hp=>by
  obtain ⟨h1,h2,h3⟩:=hb p hp
  refine List.mem_map.2 ⟨((p+5*n) / 2).toNat,List.mem_range.2 (by exact yv57 h2),by exact yv58 h1 h3⟩
 unfold ks at this
 rw [List.length_map,List.length_map,List.length_range] at this
 exact y175 hn this
theorem SN_S {f:Int->Int}:∀ {k:Nat},SN (k+1) f=SN k (S f)
 | 0=>rfl
 | k+1=>by show S (SN (k+1) f)=S (SN k (S f));rw [SN_S]
theorem S_add {f g:Int->Int}:S (fun p=>f p+g p)=fun p=>S f p+S g p:=by
 funext p;show -(f (p-2)+g (p-2))-(f (p+2)+g (p+2))=-f (p-2)-f (p+2)+(-g (p-2)-g (p+2));exact y162
theorem SN_add {f g:Int->Int}:∀ {k:Nat},SN k (fun p=>f p+g p)=fun p=>SN k f p+SN k g p
 | 0=>rfl
 | k+1=>by show S (SN k _)=fun p=>S (SN k f) p+S (SN k g) p;rw [SN_add,S_add]
noncomputable def trues (s:List Bool):Nat:=s.count true
theorem kink_term {x p:Int} {k:Nat}:SN (k+1) (Dl (x+1) 1) p+SN k (Dl (x-1) 1) p=-SN k (Dl (x+3) 1) p:=by
 rw [SN_S]
 have e:S (Dl (x+1) 1)=fun p=>(-1)*Dl (x+3) 1 p+(-1)*Dl (x-1) 1 p:=by
  funext p
  show -(if x+1=p-2 then (1:Int) else 0)-(if x+1=p+2 then (1:Int) else 0)=(-1)*(if x+3=p then (1:Int) else 0)+(-1)*(if x-1=p then (1:Int) else 0)
  by_cases h1:x+3=p
  ·rw [if_pos h1,if_pos (by exact y163 h1),if_neg (by exact y165 h1),if_neg (by exact y166 h1)];rfl
  ·rw [if_neg h1,if_neg (by exact y167 h1)]
   by_cases h2:x-1=p
   ·rw [if_pos h2,if_pos (by exact y168 h2)];rfl
   ·rw [if_neg h2,if_neg (by exact y169 h2)];rfl
 rw [e,SN_add,SN_mul,SN_mul]
 show -1*SN k (Dl (x+3) 1) p+-1*SN k (Dl (x-1) 1) p+SN k (Dl (x-1) 1) p=_
 exact y170
theorem kink_sum {p:Int}:∀ {n:Nat} {q:Int},sm (fun s=>SN (trues s) (Dl (q+2*trues s-s.length) 1) p) (bsL n)=if n % 2=0 then Dl (q+3*n) 1 p else -Dl (q+3*n) 1 p
 | 0,q=>by show SN 0 (Dl (q+2*0-0) 1) p+0=Dl (q+3*0) 1 p;rw [Int.add_zero];show Dl _ 1 p=_;congr 1;exact y164
 | n+1,q=>by
  show sm _ ((bsL n).map (fun s=>s++[true])++(bsL n).map (fun s=>s++[false]))=_
  rw [sm_app,sm_map,sm_map,<-sm_add]
  have:∀ s∈bsL n,SN (trues (s++[true])) (Dl (q+2*trues (s++[true])-(s++[true]).length) 1) p+SN (trues (s++[false])) (Dl (q+2*trues (s++[false])-(s++[false]).length) 1) p=-1*SN (trues s) (Dl (q+3+2*trues s-s.length) 1) p:=fun s _=>by
   have h1:trues (s++[true])=trues s+1:=by unfold trues;rw [List.count_append];rfl
   have h2:trues (s++[false])=trues s:=by unfold trues;rw [List.count_append];rfl
   rw [h1,h2,List.length_append,List.length_append]
   have:=kink_term (x:=q+2*trues s-s.length) (p:=p) (k:=trues s)
   rw [show q+2*((trues s+1:Nat):Int)-((s.length+[true].length:Nat):Int)=q+2*trues s-s.length+1 by simp;exact y171,show q+2*(trues s:Int)-((s.length+[false].length:Nat):Int)=q+2*trues s-s.length-1 by simp;exact y172,this,show q+3+2*(trues s:Int)-s.length=q+2*trues s-s.length+3 by exact y173]
   exact y174
  rw [sm_congr this]
  have e:∀ l:List (List Bool),sm (fun s=>-1*SN (trues s) (Dl (q+3+2*trues s-s.length) 1) p) l=-sm (fun s=>SN (trues s) (Dl (q+3+2*trues s-s.length) 1) p) l:=fun l=>by
   induction l with
   | nil=>rfl
   | cons a l ih=>show -1*SN _ _ p+sm _ l=-(SN _ _ p+sm _ l);rw [ih];exact y176
  rw [e,kink_sum,show q+3*((n+1:Nat):Int)=q+3+3*n by exact y177]
  rcases Nat.mod_two_eq_zero_or_one n with h | h
  ·rw [if_pos h,if_neg (by exact yv59 h)]
  ·rw [if_neg (by exact yv9 h),if_pos (by exact yv60 h),Int.neg_neg]
end Mine.Internal
end
section
namespace Mine.Internal
open PySem
section
variable {n:Nat}
noncomputable def kv (s:List Bool) (i:Nat):Int:=if i<=2*s.length then (if i % 2=0 then 0 else if s.getD (i / 2) false then (i:Int) else 0) else (i:Int)
noncomputable def kJ (n i:Nat) (b:Bool):List (Nat×Nat):=
 if b then [(2*i,(2*i+1+1) % (2*n)),(2*i+1,(2*i+1) % (2*n))] else [(2*i,2*i+1),((2*i+1) % (2*n),(2*i+1+1) % (2*n))]
structure KI (n:Nat) (s:List Bool) (g:List Int):Prop where
 len:g.length=2*n
 at_:∀ i,i < 2*n->g.getD i 0=kv s i
theorem kv_hi {s:List Bool} {i:Nat} (h:2*s.length < i):kv s i=i:=if_neg (by exact y178 h)
theorem kv_ev {s:List Bool} {i:Nat} (h:i<=s.length):kv s (2*i)=0:=by unfold kv;rw [if_pos (by exact y179 h),if_pos (by exact yv61)]
theorem kv_snoc_lo {s:List Bool} {b:Bool} {i:Nat} (h:i<=2*s.length):kv (s++[b]) i=kv s i:=by
 unfold kv
 rw [if_pos h,if_pos (by rw [List.length_append];exact y180 h)]
 by_cases e:i % 2=0
 ·rw [if_pos e,if_pos e]
 ·rw [if_neg e,if_neg e,List.getD_eq_getElem?_getD,List.getD_eq_getElem?_getD,List.getElem?_append_left (by exact yv63 h e)]
theorem kv_snoc_1 {s:List Bool} {b:Bool}:kv (s++[b]) (2*s.length+1)=if b then ((2*s.length+1:Nat):Int) else 0:=by
 unfold kv
 rw [if_pos (by rw [List.length_append];show _<=2*(s.length+1);exact y181),if_neg (by exact yv62),show (2*s.length+1) / 2=s.length by exact yv64,List.getD_eq_getElem?_getD,List.getElem?_append_right (Nat.le_refl _),Nat.sub_self];rfl
theorem kv_snoc_2 {s:List Bool} {b:Bool}:kv (s++[b]) (2*s.length+2)=0:=by
 rw [show 2*s.length+2=2*(s.length+1) by exact y182];exact kv_ev (by rw [List.length_append];exact Nat.le_refl _)
theorem kv_snoc_hi {s:List Bool} {b:Bool} {i:Nat} (h:2*s.length+2 < i):kv (s++[b]) i=i:=kv_hi (by rw [List.length_append];show 2*(s.length+1) < i;exact y183 h)
theorem kv_or {s:List Bool} {i:Nat}:kv s i=0\/kv s i=i:=by
 unfold kv
 split
 ·split
  ·exact .inl rfl
  ·split
   ·exact .inr rfl
   ·exact .inl rfl
 ·exact .inr rfl
theorem mg_same {g:List Int} {a b:Nat} (h:g.getD a 0=g.getD b 0):mg g a b=g:=if_neg fun z=>z h
theorem ki_step {s:List Bool} {b:Bool} {g:List Int} (hs:s.length < n) (k:KI n s g):KI n (s++[b]) (mgs g (kJ n s.length b)):=by
 refine ⟨by rw [mgs_len,k.len],fun i hi=>?_⟩
 have hm:2*s.length+1 < 2*n:=by exact y17 hs
 have g0:g.getD (2*s.length) 0=0:=(k.at_ _ (by exact y15 hs)).trans (kv_ev (Nat.le_refl _))
 have g1:g.getD (2*s.length+1) 0=((2*s.length+1:Nat):Int):=(k.at_ _ hm).trans (kv_hi (by exact y189))
 have cs:=Nat.lt_trichotomy i (2*s.length+1)
 have vals:kv (s++[b]) i=if i=2*s.length+1 then (if b then ((2*s.length+1:Nat):Int) else 0) else if i=2*s.length+2 then 0 else kv s i:=by
  by_cases e1:i=2*s.length+1
  ·rw [if_pos e1,e1];exact kv_snoc_1
  ·rw [if_neg e1]
   by_cases e2:i=2*s.length+2
   ·rw [if_pos e2,e2];exact kv_snoc_2
   ·rw [if_neg e2]
    rcases Nat.lt_or_ge i (2*s.length+1) with h | h
    ·exact kv_snoc_lo (by exact y191 h)
    ·rw [kv_snoc_hi (by exact y193 e1 e2 h),kv_hi (by exact y195 h)]
 have vi:∀ j,j < 2*n->(g.getD j 0=((2*s.length+1:Nat):Int)↔j=2*s.length+1)/\(2*s.length+2 < 2*n->(g.getD j 0=((2*s.length+2:Nat):Int)↔j=2*s.length+2)):=fun j hj=>by
  rw [k.at_ j hj]
  refine ⟨⟨fun h=>?_,fun h=>by rw [h];exact kv_hi (by exact y189)⟩,fun _=>⟨fun h=>?_,fun h=>by rw [h];exact kv_hi (by exact y197)⟩⟩
  ·rcases kv_or (s:=s) (i:=j) with q | q<;>(first | exact y199 h q | exact y201 h q)
  ·rcases kv_or (s:=s) (i:=j) with q | q<;>(first | exact y202 h q | exact y203 h q)
 rw [vals]
 rcases Nat.lt_or_ge (2*s.length+2) (2*n) with hl | hl
 ·have g2:g.getD (2*s.length+2) 0=((2*s.length+2:Nat):Int):=(k.at_ _ hl).trans (kv_hi (by exact y197))
  have md1:(2*s.length+1) % (2*n)=2*s.length+1:=Nat.mod_eq_of_lt hm
  have md2:(2*s.length+1+1) % (2*n)=2*s.length+2:=Nat.mod_eq_of_lt hl
  cases b with
  | true=>
   show (mg (mg g (2*s.length) ((2*s.length+1+1) % (2*n))) (2*s.length+1) ((2*s.length+1) % (2*n))).getD i 0=_
   rw [md1,md2,mg_same (a:=2*s.length+1) rfl,mg_at (by rw [k.len];exact hi),g0,g2]
   have:=(vi i hi).2 hl
   by_cases e2:i=2*s.length+2
   ·rw [if_pos (this.2 e2),if_neg (by exact y204 e2),if_pos e2]
   ·rw [if_neg fun z=>e2 (this.1 z)]
    by_cases e1:i=2*s.length+1
    ·rw [if_pos e1,e1,g1];rfl
    ·rw [if_neg e1,if_neg e2,k.at_ i hi]
  | false=>
   show (mg (mg g (2*s.length) (2*s.length+1)) ((2*s.length+1) % (2*n)) ((2*s.length+1+1) % (2*n))).getD i 0=_
   have lg:g.length=2*n:=k.len
   rw [md1,md2,mg_at (by rw [mg_len,lg];exact hi),mg_at (by rw [lg];exact hi),mg_at (by rw [lg];exact hl),mg_at (by rw [lg];exact hm),g0,g1,g2,if_pos rfl,if_neg (show ¬ ((2*s.length+2:Nat):Int)=((2*s.length+1:Nat):Int) by exact y205)]
   have t1:=(vi i hi).1
   have t2:=(vi i hi).2 hl
   by_cases e1:i=2*s.length+1
   ·rw [if_pos (t1.2 e1),if_pos e1,if_neg (by exact y206)];rfl
   ·rw [if_neg fun z=>e1 (t1.1 z),if_neg e1]
    by_cases e2:i=2*s.length+2
    ·rw [if_pos (t2.2 e2),if_pos e2]
    ·rw [if_neg fun z=>e2 (t2.1 z),if_neg e2,k.at_ i hi]
 ·have en:2*n=2*s.length+2:=by exact y207 hs hl
  have md1:(2*s.length+1) % (2*n)=2*s.length+1:=Nat.mod_eq_of_lt hm
  have md2:(2*s.length+1+1) % (2*n)=0:=by rw [en];exact Nat.mod_self _
  have gz:g.getD 0 0=0:=(k.at_ 0 (by exact y208 hs)).trans (kv_ev (i:=0) (Nat.zero_le _))
  have e2:i≠2*s.length+2:=by exact y209 hi hl
  rw [if_neg e2]
  cases b with
  | true=>
   show (mg (mg g (2*s.length) ((2*s.length+1+1) % (2*n))) (2*s.length+1) ((2*s.length+1) % (2*n))).getD i 0=_
   rw [md1,md2,mg_same (a:=2*s.length) (b:=0) (g0.trans gz.symm),mg_same rfl]
   by_cases e1:i=2*s.length+1
   ·rw [if_pos e1,e1,g1];rfl
   ·rw [if_neg e1,k.at_ i hi]
  | false=>
   show (mg (mg g (2*s.length) (2*s.length+1)) ((2*s.length+1) % (2*n)) ((2*s.length+1+1) % (2*n))).getD i 0=_
   have lg:g.length=2*n:=k.len
   rw [md1,md2,mg_same (a:=2*s.length+1) (b:=0) (by rw [mg_at (by rw [lg];exact hm),mg_at (by rw [lg];exact y208 hs),g0,g1,gz,if_pos rfl,if_neg (by exact y210)]),mg_at (by rw [lg];exact hi),g0,g1]
   have t1:=(vi i hi).1
   by_cases e1:i=2*s.length+1
   ·rw [if_pos (t1.2 e1),if_pos e1];rfl
   ·rw [if_neg fun z=>e1 (t1.1 z),if_neg e1,k.at_ i hi]
theorem mgs_app {g:List Int} {l m:List (Nat×Nat)}:mgs g (l++m)=mgs (mgs g l) m:=List.foldl_append ..
theorem ki_all {g:List Int} (h0:KI n [] g):∀ {s t:List Bool},s++t.reverse=s++t.reverse->(s++t.reverse).length<=n->KI n s (mgs g (jn (kJ n) s))->KI n (s++t.reverse) (mgs g (jn (kJ n) (s++t.reverse)))
 | s,[],_,_,k=>by rw [List.reverse_nil,List.append_nil];exact k
 | s,b::t,e,hl,k=>by
  have e1:s++(b::t).reverse=(s++t.reverse)++[b]:=by rw [List.reverse_cons,List.append_assoc]
  rw [e1] at hl ⊢
  rw [List.length_append] at hl
  rw [jn_snoc,mgs_app]
  exact ki_step (by simp at hl ⊢;exact y185 hl) (ki_all h0 (s:=s) (t:=t) rfl (by simp at hl ⊢;exact y188 hl) k)
theorem ki_start:KI n [] ((List.range (2*n)).map fun i:Nat=>(i:Int)):=by
 refine ⟨by rw [List.length_map,List.length_range],fun i hi=>?_⟩
 rw [List.getD_eq_getElem?_getD,List.getElem?_map,List.getElem?_range hi]
 show (i:Int)=_
 cases i with
 | zero=>rfl
 | succ i=>exact (kv_hi (Nat.succ_pos i)).symm
theorem fm_step {f:Nat->Int} {m:Nat}:(PyProof.Rows.firstMet f (m+1)).length=(PyProof.Rows.firstMet f m).length+if ∃ j,j < m/\f j=f m then 0 else 1:=by
 rw [PyProof.Rows.firstMet_succ]
 unfold PyProof.Rows.step_dedup
 rw [fm_any]
 by_cases h:∃ j,j < m/\f j=f m
 ·rw [if_pos (decide_eq_true h),if_pos h];rfl
 ·rw [if_neg (fun z=>h (of_decide_eq_true z)),if_neg h,List.length_append];rfl
theorem fm_kinks {s:List Bool}:∀ m,m<=s.length->(PyProof.Rows.firstMet (kv s) (2*m)).length=if m=0 then 0 else 1+trues (s.take m)
 | 0,_=>rfl
 | m+1,hm=>by
  rw [show 2*(m+1)=2*m+1+1 by exact y184,fm_step,fm_step,fm_kinks m (by exact y16 hm),if_neg (Nat.succ_ne_zero m)]
  have t1:trues (s.take (m+1))=trues (s.take m)+if s.getD m false then 1 else 0:=by
   unfold trues
   rw [List.take_add_one,List.count_append,List.getElem?_eq_getElem hm,List.getD_eq_getElem?_getD,List.getElem?_eq_getElem hm]
   show _+List.count true [s[m]]=_+if s[m] then 1 else 0
   cases s[m]<;>rfl
  have v0:kv s (2*m)=0:=kv_ev (by exact y16 hm)
  have v1:kv s (2*m+1)=if s.getD m false then ((2*m+1:Nat):Int) else 0:=by
   unfold kv;rw [if_pos (by exact y190 hm),if_neg (by exact yv62),show (2*m+1) / 2=m by exact yv64]
  have p1:(∃ j,j < 2*m+1/\kv s j=kv s (2*m+1))↔s.getD m false=false:=by
   rw [v1]
   cases s.getD m false with
   | true=>
    refine ⟨fun ⟨j,hj,e⟩=>?_,fun h=>by cases h⟩
    have e:kv s j=((2*m+1:Nat):Int):=e
    rcases kv_or (s:=s) (i:=j) with q | q<;>(first | exact (y192 e q).elim | exact (y194 hj e q).elim)
   | false=>exact ⟨fun _=>rfl,fun _=>⟨2*m,by exact y189,v0⟩⟩
  have p0:(∃ j,j < 2*m/\kv s j=kv s (2*m))↔m≠0:=by
   rw [v0]
   exact ⟨fun ⟨j,hj,_⟩ e=>absurd hj (by rw [e];exact Nat.not_lt_zero _),fun h=>⟨0,by exact y196 h,kv_ev (i:=0) (Nat.zero_le _)⟩⟩
  rw [t1]
  by_cases hz:m=0
  ·rw [if_pos hz,if_neg (fun z=>p0.1 z hz)]
   cases hg:s.getD m false with
   | true=>rw [if_neg (fun z=>by rw [p1.1 z] at hg;cases hg),if_pos rfl,hz];rfl
   | false=>rw [if_pos (p1.2 hg),hz];rfl
  ·rw [if_neg hz,if_pos (p0.2 hz)]
   cases hg:s.getD m false with
   | true=>rw [if_neg (fun z=>by rw [p1.1 z] at hg;cases hg),if_pos rfl];exact y198
   | false=>rw [if_pos (p1.2 hg),if_neg (by decide)];exact y200
theorem dcnt_kinks {s:List Bool} (hn:0 < n) (hs:s.length=n):dcnt (mgs ((List.range (2*n)).map fun i:Nat=>(i:Int)) (jn (kJ n) s))=1+trues s:=by
 have k:=ki_all (n:=n) ki_start (s:=[]) (t:=s.reverse) rfl (by simp [hs]) (ki_start (n:=n))
 rw [List.reverse_reverse,List.nil_append] at k
 unfold dcnt
 rw [fm_len (g:=kv s) (m:=2*n) (fun i j hi hj=>by rw [k.at_ i hi,k.at_ j hj]) _ (by rw [k.len];exact Nat.le_refl _),k.len,fm_kinks n (by exact y186 hs),if_neg (by exact y187 hn),<-hs,List.take_length]
end
end Mine.Internal
end
section
namespace Mine.Internal
open PySem
theorem c2 {n f:Nat} {args:List PV} {fn:Fn} (h:f7_all[f]?=some fn):callN f7_all (n+1) f args=runFn fn (callN f7_all n) args:=callS h
theorem run2 {fn:Fn} {cf:Nat->List PV->Res PV} {args:List PV} {o:Out} {ρ:Slots} (ha:args.length=fn.arity) (hρ:args.map some++List.replicate (fn.slots-fn.arity) none=ρ) (h:exs cf ρ fn.body=.ok o):runFn fn cf args=.ok (outVal o):=by
 simp only [runFn,ha,if_true,hρ,h,bindK]
theorem exs_n {cf:Nat->List PV->Res PV} {ρ ρ':Slots} {p:PS} {r:List PS} (h:ex cf ρ p=.ok (.next ρ')):exs cf ρ (p::r)=exs cf ρ' r:=by
 simp only [exsC,h,bindK]
theorem exs_r {cf:Nat->List PV->Res PV} {ρ:Slots} {p:PS} {r:List PS} {d:PV} (h:ex cf ρ p=.ok (.ret d)):exs cf ρ (p::r)=.ok (.ret d):=by
 simp only [exsC,h,bindK]
theorem exs_0 {cf:Nat->List PV->Res PV} {ρ:Slots}:exs cf ρ []=.ok (.next ρ):=by simp only [exsN]
theorem ex_while {cf:Nat->List PV->Res PV} {ρ:Slots} {c:PE} {body:List PS} {o:Out} (h:whileGo (fun ρ'=>ev cf ρ' c) (fun ρ'=>exs cf ρ' body) fuel ρ=.ok o):ex cf ρ (.while_ c body)=.ok o:=xE10.trans h
theorem ex_for {cf:Nat->List PV->Res PV} {ρ:Slots} {t:Tgt} {k:ItK} {src:List PE} {body:List PS} {o:Out} {xs ds:List PV} (hs:evs cf ρ src=.ok xs) (hi:items k xs=.ok ds) (h:forGo (fun ρ'=>exs cf ρ' body) t ds ρ=.ok o):ex cf ρ (.for_ t k src body)=.ok o:=by
 rw [xE9,hs,bindK,hi];exact h
theorem forGo_n {body:Slots->Res Out} {t:Tgt} {d:PV} {ds:List PV} {ρ ρ1 ρ2:Slots} (h1:setTgt t d ρ=.ok ρ1) (h2:body ρ1=.ok (.next ρ2)):forGo body t (d::ds) ρ=forGo body t ds ρ2:=by
 simp only [forC,h1,bindK,h2]
theorem ex_append {cf:Nat->List PV->Res PV} {ρ:Slots} {i:Nat} {e:PE} {l:List PV} {d:PV} (h0:slot ρ i=.ok (.list l)) (h1:ev cf ρ e=.ok d) (h2:l.length < lim):ex cf ρ (.append i e)=.ok (.next (ρ.set i (some (.list (l++[d]))))):=by
 rw [xE5,h0]
 show (ev cf ρ e).bind _=_
 rw [h1]
 show (if decide (l.length < lim)=true then _ else _)=_
 rw [if_pos (decide_eq_true h2)]
theorem ev_mul {cf:Nat->List PV->Res PV} {ρ:Slots} {a b:PE} {x y:Int} (h1:ev cf ρ a=.ok (.int x)) (h2:ev cf ρ b=.ok (.int y)) (hx:big x=false) (hy:big y=false):ev cf ρ (.bin .mul a b)=.ok (.int (x*y)):=by
 rw [vE6,h1]
 show (ev cf ρ b).bind _=_
 rw [h2]
 show (if (big x||big y)=true then _ else _)=_
 rw [hx,hy];rfl
theorem ex_ite {cf:Nat->List PV->Res PV} {ρ:Slots} {c:PE} {a b:List PS} {t:Bool} (h:ev cf ρ c=.ok (.bool t)):ex cf ρ (.ite c a b)=if t=true then exs cf ρ a else exs cf ρ b:=by
 rw [xE8,h];rfl
theorem ev_call {cf:Nat->List PV->Res PV} {ρ:Slots} {f:Nat} {l:List PE} {xs:List PV} {d:PV} (h1:evs cf ρ l=.ok xs) (h2:cf f xs=.ok d):ev cf ρ (.call f false l)=.ok d:=by
 rw [vE19,h1]
 show (cf f xs).bind _=_
 rw [h2];rfl
theorem ex_assign {cf:Nat->List PV->Res PV} {ρ:Slots} {i:Nat} {e:PE} {d:PV} (h:ev cf ρ e=.ok d):ex cf ρ (.assign i e)=.ok (.next (ρ.set i (some d))):=by
 rw [xE1,h];rfl
theorem ex_update {cf:Nat->List PV->Res PV} {ρ:Slots} {i:Nat} {e:PE} {l m:List (Key×PV)} (h0:slot ρ i=.ok (.dict l)) (h1:ev cf ρ e=.ok (.dict m)) (hc:(dfits l (.tup [])&&dfits m (.tup [])&&decide (l.length+m.length < lim)&&(!l.isEmpty||decide ((m.map fun p=>khash p.1).Nodup)))=true):
  ex cf ρ (.update i e)=.ok (.next (ρ.set i (some (.dict (dupd l m))))):=by
 rw [xE6,h0]
 show (ev cf ρ e).bind _=_
 rw [h1]
 exact if_pos hc
theorem items_range (n:Int):items .range1 [.int n]=(if (decide (0<=n)&&decide (n<=(lim:Nat)))=true then Res.ok (upto 0 n) else .stuck):=rfl
theorem ex_skip {cf:Nat->List PV->Res PV} {ρ:Slots} {c:PE} {a:List PS} (h:ev cf ρ c=.ok (.bool false)):ex cf ρ (.ite c a [])=.ok (.next ρ):=by
 rw [xE8,h];rfl
theorem ex_setItem {cf:Nat->List PV->Res PV} {ρ:Slots} {i:Nat} {k v:PE} {l:List (Key×PV)} {d kk:PV} {key:Key} (h0:slot ρ i=.ok (.dict l)) (hv:ev cf ρ v=.ok d) (hk:ev cf ρ k=.ok kk) (hkk:kk.key?=some key) (hf:dfits l key=true) (hl:l.length < lim):ex cf ρ (.setItem i k v)=.ok (.next (ρ.set i (some (.dict (dput l key d))))):=by
 rw [xE4,hv]
 show (slot ρ i).bind _=_
 rw [h0]
 show (ev cf ρ k).bind _=_
 rw [hk]
 show (match kk.key? with | some k=>if (dfits l k&&decide (l.length < lim))=true then _ else _ | none=>_)=_
 rw [hkk]
 show (if (dfits l key&&decide (l.length < lim))=true then _ else _)=_
 rw [hf,decide_eq_true hl];rfl
theorem isin_int {l:List (Key×PV)} {i:Int} (h:dfits l (.int i)=true):isin (.int i) (.dict l)=.ok (dhas l (.int i)):=if_pos h
noncomputable def sI (x:Nat×Bool):PV:=.tuple [.int x.1,.int (if x.2 then 1 else -1)]
noncomputable def dT (ts:List Int):List (Key×PV):=ts.zipIdx.map fun p=>(Key.int ((p.2:Int)+1),PV.int p.1)
theorem cell_at {n k:Nat} (ns:List Int):∃ x,callN f7_all (n+1) 14 [.list (ns.map .int),.int k]=.ok (.int x):=by
 rw [c2 (by rfl)]
 by_cases h:k < ns.length
 ·refine ⟨ns[k],?_⟩
  simp [runFn,f7__law_cell_at,exsN,exsC,xE8,xE11,vE1,vE2,vE9,vE14,vE20,evsN,evsC,slot,bindK,int2K,copLt,int2K,prLen,p1K,lenL,getIdxL,outR,h]
 ·refine ⟨0,?_⟩
  simp [runFn,f7__law_cell_at,exsN,exsC,xE8,xE11,vE1,vE2,vE9,vE14,vE20,evsN,evsC,slot,bindK,int2K,copLt,int2K,prLen,p1K,lenL,getIdxL,outR,h]
theorem ints_map:∀ (l:List Int),PV.ints? (l.map PV.int)=some l
 | []=>rfl
 | i::l=>by simp [intsC,ints_map l]
theorem dT_fits {ts:List Int} {i:Int}:dfits (dT ts) (.int i)=true:=by
 simp [dfits,dT,sameII]
theorem dT_go {t:Int}:∀ {ts:List Int} {k j:Nat},ts[k]?=some t->((ts.zipIdx j).map fun p=>(Key.int ((p.2:Int)+1),PV.int p.1)).find? (fun p=>p.1=Key.int ((j:Int)+k+1))=some (Key.int ((j:Int)+k+1),PV.int t)
 | [],_,_,h=>by simp at h
 | a::ts,0,j,h=>by simp at h;subst h;simp
 | a::ts,k+1,j,h=>by
  have:=dT_go (ts:=ts) (k:=k) (j:=j+1) (by simpa using h)
  simp only [List.zipIdx_cons,List.map_cons,List.find?_cons]
  have hne:¬ (Key.int ((j:Int)+1)=Key.int ((j:Int)+((k+1:Nat):Int)+1)):=by simp;exact o143
  simp only [decide_eq_false hne]
  have e:((j+1:Nat):Int)+k+1=(j:Int)+((k+1:Nat):Int)+1:=by exact o144
  rw [e] at this
  exact this
theorem dT_get {ts:List Int} {k:Nat} {t:Int} (h:ts[k]?=some t):dget (dT ts) (.int ((k:Int)+1))=some (.int t):=by
 have:=dT_go (j:=0) h
 simp only [Int.natCast_zero,Int.zero_add] at this
 unfold dget dT;rw [this];rfl
noncomputable def sbR:List PS:=f7_side_behind.body.drop 3
theorem sb_known {cf:Nat->List PV->Res PV} {L:List Int} {T:List (Key×PV)} {g w v:Int} {r:List PS} {a b:PE}
  (hc:ev cf [some (.list (L.map .int)),some (.dict T),some (.tuple [.int g,.int w]),some (.int g),some (.int w),none,none,none,none,none,none,none,none,none] a=.ok (.bool false))
  (hb:ev cf [some (.list (L.map .int)),some (.dict T),some (.tuple [.int g,.int w]),some (.int g),some (.int w),none,none,none,none,none,none,none,none,none] b=.ok (.int v)) {x:List PS}:
  exs cf [some (.list (L.map .int)),some (.dict T),some (.tuple [.int g,.int w]),none,none,none,none,none,none,none,none,none,none,none] (.unpack [3,4] (.var 2)::.ite a x []::.assign 5 b::r) =
  exs cf [some (.list (L.map .int)),some (.dict T),some (.tuple [.int g,.int w]),some (.int g),some (.int w),some (.int v),none,none,none,none,none,none,none,none] r:=by
 refine (exs_n (ρ':=[some (.list (L.map .int)),some (.dict T),some (.tuple [.int g,.int w]),some (.int g),some (.int w),none,none,none,none,none,none,none,none,none]) rfl).trans ((exs_n (by rw [xE8,hc];rfl)).trans (exs_n ?_))
 rw [xE1]
 exact congrArg (fun r=>Res.bind r _) hb
theorem sb_mark0 {cf:Nat->List PV->Res PV} {A B C:Option PV} {g w:Int}:exs cf [A,B,C,some (.int g),some (.int w),some (.int 0),none,none,none,none,none,none,none,none] sbR=.ok (.ret (.tuple [.int (g+w),.int w])):=rfl
theorem sb_turn {cf:Nat->List PV->Res PV} {C:Option PV} {L:List Int} {T:List (Key×PV)} {g w v t:Int} {k:Nat} (hw:w=1\/w=-1) (hv:v≠0) (ht:t=1\/t=-1) (hf:dfits T (.int (absI v))=true) (hd:dget T (.int (absI v))=some (.int t)) (hi:L.idxOf? (-v)=some k):
  exs cf [some (.list (L.map .int)),some (.dict T),C,some (.int g),some (.int w),some (.int v),none,none,none,none,none,none,none,none] sbR=.ok (.ret (if w*(if v < 0 then -t else t)=1 then .tuple [.int (k+1),.int 1] else .tuple [.int k,.int (-1)])):=by
 have e1:ev cf [some (.list (L.map .int)),some (.dict T),C,some (.int g),some (.int w),some (.int v),none,none,none,none,none,none,none,none] (.bin .mul (.var 4) (.idx (.var 1) (.prim .abs [(.var 5)])))=.ok (.int (w*t)):=by
  show (if dfits T (.int (absI v))=true then (match dget T (.int (absI v)) with | some d=>Res.ok d | none=>.stuck) else .stuck).bind (fun y=>binop .mul (.int w) y)=_
  rw [if_pos hf,hd]
  rcases hw with rfl | rfl<;>rcases ht with rfl | rfl<;>rfl
 have e2:∀ x,ev cf [some (.list (L.map .int)),some (.dict T),C,some (.int g),some (.int w),some (.int v),x,none,none,none,none,none,none,none] (.index (.var 0) (.bin .sub (.const (.int 0)) (.var 5)))=.ok (.int k):=by
  intro x
  have:indexIn (L.map .int) (.int (0-v))=.ok (.int k):=by simp only [indexIn,ints_map,Int.zero_sub,hi]
  exact this
 have e0:(v==0)=false:=by simpa using hv
 refine (exs_n (ρ':=[some (.list (L.map .int)),some (.dict T),C,some (.int g),some (.int w),some (.int v),none,none,none,none,none,none,none,none]) ?_).trans ?_
 ·show (if (v==0)=true then _ else _)=_
  rw [e0];rfl
 refine (exs_n (ρ':=[some (.list (L.map .int)),some (.dict T),C,some (.int g),some (.int w),some (.int v),some (.int (w*t)),none,none,none,none,none,none,none]) ?_).trans ?_
 ·rw [xE1,e1];rfl
 refine (exs_n (ρ':=[some (.list (L.map .int)),some (.dict T),C,some (.int g),some (.int w),some (.int v),some (.int (w*(if v < 0 then -t else t))),none,none,none,none,none,none,none]) ?_).trans ?_
 ·show (if decide (v < 0)=true then _ else _)=_
  by_cases hn:v < 0
  ·rw [if_pos (decide_eq_true hn),if_pos hn,Int.mul_neg,<-Int.zero_sub];rfl
  ·rw [if_neg (by simpa using hn),if_neg hn];rfl
 generalize w*(if v < 0 then -t else t)=u
 refine (exs_n (ρ':=[some (.list (L.map .int)),some (.dict T),C,some (.int g),some (.int w),some (.int v),some (.int u),some (.int k),none,none,none,none,none,none]) ?_).trans ?_
 ·rw [xE1,e2];rfl
 by_cases hu:u=1
 ·subst hu;exact exs_r rfl
 ·rw [if_neg hu]
  refine (exs_n (ρ':=[some (.list (L.map .int)),some (.dict T),C,some (.int g),some (.int w),some (.int v),some (.int u),some (.int k),none,none,none,none,none,none]) ?_).trans (exs_r rfl)
  show (if (u==1)=true then _ else _)=_
  rw [show (u==1)=false by simpa using hu];rfl
theorem sb_run {n:Nat} {A:List PV} {d:PV} (ha:A.length=3) (h:exs (callN f7_all n) (A.map some++[none,none,none,none,none,none,none,none,none,none,none]) f7_side_behind.body=.ok (.ret d)):callN f7_all (n+1) 0 A=.ok d:=by
 rw [c2 (by rfl)];exact run2 (o:=.ret d) ha rfl h
theorem sb_f {n:Nat} {L:List Int} {T:List (Key×PV)} {g:Nat} {v:Int} {d:PV} (h:L[g]?=some v) (hr:∀ cf,exs cf [some (.list (L.map .int)),some (.dict T),some (.tuple [.int g,.int 1]),some (.int g),some (.int 1),some (.int v),none,none,none,none,none,none,none,none] sbR=.ok (.ret d)):
  callN f7_all (n+1) 0 [.list (L.map .int),.dict T,.tuple [.int g,.int 1]]=.ok d:=by
 have hl:=(List.getElem?_eq_some_iff.1 h).1
 refine sb_run rfl (Eq.trans (sb_known (v:=v) ?_ ?_) (hr _))
 ·have h1:¬ ((g:Int)=L.length):=by exact o145 hl
  simp [vE1,vE2,vE7,vE9,vE11,vE12,vE20,evsN,evsC,evAndN,evAndC,evOrN,evOrC,slot,bindK,copE,prLen,p1K,lenL,eqII,flatI,depI,h1]
 ·show (if (0:Int)<=g then (match (L.map PV.int)[(g:Int).toNat]? with | some d=>Res.ok d | none=>.stuck) else .stuck)=_
  rw [if_pos (Int.natCast_nonneg g),Int.toNat_natCast,List.getElem?_map,h];rfl
theorem sb_b {n:Nat} {L:List Int} {T:List (Key×PV)} {g:Nat} {v:Int} {d:PV} (h:L[g]?=some v) (hr:∀ cf,exs cf [some (.list (L.map .int)),some (.dict T),some (.tuple [.int (g+1),.int (-1)]),some (.int (g+1)),some (.int (-1)),some (.int v),none,none,none,none,none,none,none,none] sbR=.ok (.ret d)):
  callN f7_all (n+1) 0 [.list (L.map .int),.dict T,.tuple [.int (g+1),.int (-1)]]=.ok d:=by
 refine sb_run rfl (Eq.trans (sb_known (v:=v) ?_ ?_) (hr _))
 ·have h1:¬ ((g:Int)+1=0):=by exact o133
  simp [vE1,vE2,vE7,vE9,vE11,vE12,vE20,evsN,evsC,evAndN,evAndC,evOrN,evOrC,slot,bindK,copE,prLen,p1K,lenL,eqII,flatI,depI,h1]
 ·show (if (0:Int)<=(g:Int)+1-1 then (match (L.map PV.int)[((g:Int)+1-1).toNat]? with | some d=>Res.ok d | none=>.stuck) else .stuck)=_
  rw [show (g:Int)+1-1=g by exact o147,if_pos (Int.natCast_nonneg g),Int.toNat_natCast,List.getElem?_map,h];rfl
theorem sb_end {n:Nat} {L:List Int} {T:List (Key×PV)}:callN f7_all (n+1) 0 [.list (L.map .int),.dict T,.tuple [.int L.length,.int 1]]=.ok (.tuple [.int L.length,.int (-1)]):=by
 refine sb_run rfl ((exs_n (ρ':=[some (.list (L.map .int)),some (.dict T),some (.tuple [.int L.length,.int 1]),some (.int L.length),some (.int 1),none,none,none,none,none,none,none,none,none]) rfl).trans (exs_r ?_))
 simp [exsN,exsC,xE8,xE11,vE1,vE2,vE3,vE6,vE7,vE9,vE11,vE12,vE20,evsN,evsC,evAndN,evAndC,evOrN,evOrC,slot,bindK,bopS,int2K,copE,prLen,p1K,lenL,eqII,flatI,depI,mkT,lim]
theorem sb_start {n:Nat} {L:List Int} {T:List (Key×PV)}:callN f7_all (n+1) 0 [.list (L.map .int),.dict T,.tuple [.int 0,.int (-1)]]=.ok (.tuple [.int 0,.int 1]):=sb_run rfl rfl
theorem sb_mark {n g:Nat} {L:List Int} {T:List (Key×PV)} (h:L[g]?=some 0):callN f7_all (n+1) 0 [.list (L.map .int),.dict T,.tuple [.int g,.int 1]]=.ok (.tuple [.int (g+1),.int 1]):=sb_f h fun _=>sb_mark0
theorem sb_mark' {n g:Nat} {L:List Int} {T:List (Key×PV)} (h:L[g]?=some 0):callN f7_all (n+1) 0 [.list (L.map .int),.dict T,.tuple [.int (g+1),.int (-1)]]=.ok (.tuple [.int g,.int (-1)]):=by
 have:=sb_b (n:=n) (T:=T) h fun _=>sb_mark0
 rwa [show (g:Int)+1+-1=g by exact o146] at this
theorem sb_fwd {n g k:Nat} {v t:Int} {L:List Int} {T:List (Key×PV)} (h:L[g]?=some v) (hv:v≠0) (ht:t=1\/t=-1) (hf:dfits T (.int (absI v))=true) (hd:dget T (.int (absI v))=some (.int t)) (hi:L.idxOf? (-v)=some k):
  callN f7_all (n+1) 0 [.list (L.map .int),.dict T,.tuple [.int g,.int 1]]=.ok (if (if v < 0 then -t else t)=1 then .tuple [.int (k+1),.int 1] else .tuple [.int k,.int (-1)]):=by
 have:=sb_f (n:=n) (T:=T) h fun _=>sb_turn (.inl rfl) hv ht hf hd hi
 rwa [Int.one_mul] at this
theorem sb_bwd {n g k:Nat} {v t:Int} {L:List Int} {T:List (Key×PV)} (h:L[g]?=some v) (hv:v≠0) (ht:t=1\/t=-1) (hf:dfits T (.int (absI v))=true) (hd:dget T (.int (absI v))=some (.int t)) (hi:L.idxOf? (-v)=some k):
  callN f7_all (n+1) 0 [.list (L.map .int),.dict T,.tuple [.int (g+1),.int (-1)]]=.ok (if (if v < 0 then -t else t)=1 then .tuple [.int k,.int (-1)] else .tuple [.int (k+1),.int 1]):=by
 have:=sb_b (n:=n) (T:=T) h fun _=>sb_turn (.inr rfl) hv ht hf hd hi
 rw [this]
 have hu:(if v < 0 then -t else t)=1\/(if v < 0 then -t else t)=-1:=by rcases ht with rfl | rfl<;>split<;>simp
 rcases hu with h | h<;>rw [h]<;>rfl
section
variable {w:Nat} {R:List (Nat×Bool)} {sg:Nat->Int}
theorem q_at (o:Code w R) {l:Nat} (hl:l < w):(dts R sg)[qL R l]?=some (sg l):=by
 have h:l∈ordL R:=mem_ordL.2 ⟨true,(o.mem l true).2 hl⟩
 unfold dts qL
 rw [List.getElem?_map,List.getElem?_eq_getElem (idxOf_lt_of_mem h),List.getElem_idxOf];rfl
theorem rv_inj' (o:Code w R) (hsg:Sg sg) {x y:Nat×Bool} (hx:x∈R) (hy:y∈R) (e:rv (qL R) sg x=rv (qL R) sg y):x=y:=
 rv_inj hsg e fun h=>qL_inj (mem_ordL.2 ⟨x.2,hx⟩) (mem_ordL.2 ⟨y.2,hy⟩) h
theorem idx_other (o:Code w R) (hsg:Sg sg) {l:Nat} (hl:l < w) (b:Bool):(dps R sg++[0]).idxOf? (-(rv (qL R) sg (l,b)))=some (R.idxOf (l,!b)):=by
 rw [rv_neg]
 exact idxOf?_map ((o.mem l _).2 hl) (fun y hy e=>rv_inj' o hsg hy ((o.mem l _).2 hl) e)
theorem nx_t {g l:Nat} {b:Bool} (e:R[g]?=some (l,b)):nx R (g,true)=if b then (R.idxOf (l,!b),false) else (R.idxOf (l,!b)+1,true):=by
 cases b<;>simp only [nx,e]<;>rfl
theorem nx_f {g l:Nat} {b:Bool} (e:R[g]?=some (l,b)):nx R (g+1,false)=if b then (R.idxOf (l,!b)+1,true) else (R.idxOf (l,!b),false):=by
 cases b<;>simp only [nx,e]<;>rfl
theorem side_behind (o:Code w R) (hsg:Sg sg) {n:Nat} {x:Nat×Bool} (hx:x∈sds R.length):
  callN f7_all (n+1) 0 [.list ((dps R sg++[0]).map .int),.dict (dT (dts R sg)),sI x]=.ok (sI (nx R x)):=by
 obtain ⟨g,b⟩:=x
 rw [mem_sds] at hx
 have hlen:(dps R sg++[0]).length=R.length+1:=by simp [dps]
 have pass:∀ {g l:Nat} {b:Bool},R[g]?=some (l,b)->(dps R sg++[0])[g]?=some (rv (qL R) sg (l,b)):=by
  intro g l b e
  rw [List.getElem?_append_left (by have:=(o.lt e).2;simp [dps];exact o88 this)];simp [dps,e]
 have mark:(dps R sg++[0])[R.length]?=some 0:=by
  rw [List.getElem?_append_right (by simp [dps])];simp [dps]
 have dd:∀ {l:Nat} {b:Bool},l < w->dget (dT (dts R sg)) (.int (absI (rv (qL R) sg (l,b))))=some (.int (sg l)):=by
  intro l b hl
  rw [rv_abs hsg];exact dT_get (q_at o hl)
 cases b with
 | true=>
  cases e:R[g]? with
  | some y=>
   obtain ⟨l,b⟩:=y
   have hl:=(o.lt e).1
   have:=sb_fwd (n:=n) (pass e) (rv_ne hsg) (hsg l) dT_fits (dd hl) (idx_other o hsg hl b)
   rw [rv_turn hsg (x:=(l,b))] at this
   rw [nx_t e]
   refine this.trans ?_
   cases b<;>simp [sI]
  | none=>
   have:=List.getElem?_eq_none_iff.1 e
   by_cases h:g=R.length
   ·have h2:nx R (g,true)=(g+1,true):=by simp only [nx,e];simp [h]
    rw [h2];subst h;exact sb_mark mark
   ·have hg:g=R.length+1:=by simp at hx;exact o58 hx this h
    have h2:nx R (g,true)=(g,false):=by simp only [nx,e];simp [h]
    have h3:=sb_end (n:=n) (L:=dps R sg++[0]) (T:=dT (dts R sg))
    rw [hlen,<-hg] at h3
    rw [h2];exact h3
 | false=>
  cases g with
  | zero=>exact sb_start (n:=n) (L:=dps R sg++[0]) (T:=dT (dts R sg))
  | succ k=>
   cases e:R[k]? with
   | some y=>
    obtain ⟨l,b⟩:=y
    have hl:=(o.lt e).1
    have:=sb_bwd (n:=n) (pass e) (rv_ne hsg) (hsg l) dT_fits (dd hl) (idx_other o hsg hl b)
    rw [rv_turn hsg (x:=(l,b))] at this
    rw [nx_f e]
    refine this.trans ?_
    cases b<;>simp [sI]
   | none=>
    have:=List.getElem?_eq_none_iff.1 e
    have hk:k=R.length:=by simp at hx;exact o54 this hx
    have h2:nx R (k+1,false)=(k,false):=by simp only [nx,e]
    rw [h2];subst hk
    exact sb_mark' (n:=n) (T:=dT (dts R sg)) mark
end
end Mine.Internal
end
section
namespace Mine.Internal
open PySem
noncomputable def kI (x:Nat×Bool):Key:=.tup [(x.1:Int),if x.2 then 1 else -1]
noncomputable def dF (F:List (Nat×Bool)):List (Key×PV):=F.map fun y=>(kI y,PV.bool true)
theorem kI_inj {x y:Nat×Bool} (h:kI x=kI y):x=y:=by
 obtain ⟨a,b⟩:=x;obtain ⟨c,d⟩:=y
 simp [kI] at h
 cases b<;>cases d<;>simp at h ⊢<;>exact o148 h
theorem sI_key (x:Nat×Bool):(sI x).key?=some (kI x):=by
 simp [sI,kI,keyT,intsN,intsC]
theorem dF_fits {F:List (Nat×Bool)} {l:List Int}:dfits (dF F) (.tup l)=true:=by
 simp [dfits,dF,sameTT,kI]
theorem dF_fits' {F:List (Nat×Bool)} {x:Nat×Bool}:dfits (dF F) (kI x)=true:=dF_fits
theorem dF_has {F:List (Nat×Bool)} {x:Nat×Bool}:dhas (dF F) (kI x)=decide (x∈F):=by
 rw [Bool.eq_iff_iff]
 unfold dhas dF
 rw [List.any_eq_true,decide_eq_true_iff]
 constructor
 ·rintro ⟨p,hp,e⟩
  obtain ⟨y,hy,rfl⟩:=List.mem_map.1 hp
  have:=kI_inj (of_decide_eq_true e)
  rw [<-this];exact hy
 ·intro h;exact ⟨(kI x,.bool true),List.mem_map.2 ⟨x,h,rfl⟩,by simp⟩
theorem dF_put {F:List (Nat×Bool)} {x:Nat×Bool} (h:x∉F):dput (dF F) (kI x) (.bool true)=dF (F++[x]):=by
 unfold dput;rw [dF_has];simp [h,dF]
theorem dF_upd {G:List (Nat×Bool)}:∀ {F:List (Nat×Bool)} ,F.Nodup->(∀ x∈F,x∉G)->dupd (dF G) (dF F)=dF (G++F)
 | [],_,_=>by simp [dupd,dF]
 | x::F,hn,hd=>by
  have h1:=List.nodup_cons.1 hn
  have:dupd (dF (G++[x])) (dF F)=dF (G++[x]++F):=dF_upd h1.2 (fun y hy=>by
   simp;exact ⟨hd y (by simp [hy]),by rintro rfl;exact h1.1 hy⟩)
  rw [List.append_assoc] at this
  show dupd (dput (dF G) (kI x) (.bool true)) (dF F)=_
  rw [dF_put (hd x (by simp)),this];rfl
theorem isin_dF {F:List (Nat×Bool)} {x:Nat×Bool}:isin (sI x) (.dict (dF F))=.ok (decide (x∈F)):=by
 simp [isin,sI_key,dF_fits',dF_has]
section
variable {w:Nat} {R:List (Nat×Bool)} {sg:Nat->Int}
noncomputable def thg (R:List (Nat×Bool)) (sg:Nat->Int):PV:=.list ((dps R sg++[0]).map .int)
noncomputable def tns (R:List (Nat×Bool)) (sg:Nat->Int):PV:=.dict (dT (dts R sg))
theorem whileGo_t {test:Slots->Res PV} {body:Slots->Res Out} {k:Nat} {ρ ρ':Slots} (h1:test ρ=.ok (.bool true)) (h2:body ρ=.ok (.next ρ')):whileGo test body (k+1) ρ=whileGo test body k ρ':=by
 show (test ρ).bind _=_
 rw [h1]
 show (body ρ).bind _=_
 rw [h2];rfl
theorem whileGo_f {test:Slots->Res PV} {body:Slots->Res Out} {k:Nat} {ρ:Slots} (h1:test ρ=.ok (.bool false)):whileGo test body (k+1) ρ=.ok (.next ρ):=by
 show (test ρ).bind _=_
 rw [h1];rfl
theorem nodup_snoc {α:Type} {l:List α} {x:α} (h:l.Nodup) (hx:x∉l):(l++[x]).Nodup:=
 List.nodup_append.2 ⟨h,List.nodup_cons.2 ⟨List.not_mem_nil,List.nodup_nil⟩,fun a ha b hb e=>hx (by rw [<-List.mem_singleton.1 hb,<-e];exact ha)⟩
theorem face_while (o:Code w R) (hsg:Sg sg) (hm:R.length<=1000) {n:Nat} {F':List (Nat×Bool)}:∀ {k:Nat} {F:List (Nat×Bool)} {x:Nat×Bool},x∈sds R.length->F.Nodup->(∀ y∈F,y∈sds R.length)->walk (nx R) k F x=some F' ->
  ∃ y,whileGo (fun ρ'=>ev (callN f7_all (n+1)) ρ' (.cmp .notIn (.var 2) (.var 3))) (fun ρ'=>exs (callN f7_all (n+1)) ρ' [(.setItem 3 (.var 2) (.const (.bool true))),(.assign 2 (.call 0 false [(.var 0),(.var 1),(.var 2)]))]) k
   [some (thg R sg),some (tns R sg),some (sI x),some (.dict (dF F)),none,none,none,none,none,none]=.ok (.next [some (thg R sg),some (tns R sg),y,some (.dict (dF F')),none,none,none,none,none,none])
 | 0,F,x,hx,hn,hF,h=>by simp [walk0] at h
 | k+1,F,x,hx,hn,hF,h=>by
  have ht:∀ b,decide (x∈F)=b->ev (callN f7_all (n+1)) [some (thg R sg),some (tns R sg),some (sI x),some (.dict (dF F)),none,none,none,none,none,none] (.cmp .notIn (.var 2) (.var 3))=.ok (.bool (!b)):=fun b hb=>by
   show (((isin (sI x) (.dict (dF F))).bind _).bind _)=_
   rw [isin_dF,hb];rfl
  by_cases hxF:x∈F
  ·simp only [walkS,hxF,if_true,Option.some.injEq] at h;subst h
   exact ⟨some (sI x),whileGo_f (ht true (decide_eq_true hxF))⟩
  ·simp only [walkS,hxF,if_false] at h
   obtain ⟨y,hy⟩:=face_while o hsg hm (n:=n) (k:=k) (F:=F++[x]) (x:=nx R x) (nx_mem o x hx) (nodup_snoc hn hxF) (fun y hy=>(List.mem_append.1 hy).elim (hF y) fun h=>by rw [List.mem_singleton.1 h];exact hx) h
   refine ⟨y,Eq.trans (whileGo_t (ht false (decide_eq_false hxF)) ?_) hy⟩
   have hl:=nodup_le hn hF
   rw [sds_len] at hl
   have hl2:(dF F).length < lim:=by rw [dF,List.length_map,lim];exact o150 hm hl
   refine (exs_n (ex_setItem (l:=dF F) rfl rfl rfl (sI_key x) dF_fits' hl2)).trans ((exs_n (ex_assign (ev_call rfl (side_behind o hsg (n:=n) hx)))).trans ?_)
   rw [exs_0,dF_put hxF];rfl
theorem face_of (o:Code w R) (hsg:Sg sg) (hm:R.length<=1000) {n:Nat} {x:Nat×Bool} (hx:x∈sds R.length):callN f7_all (n+2) 1 [thg R sg,tns R sg,sI x]=.ok (.dict (dF (orb R x))):=by
 obtain ⟨y,hy⟩:=face_while o hsg hm (n:=n) (k:=fuel) (F:=[]) hx List.nodup_nil (fun _ h=>absurd h List.not_mem_nil) (orb_is o hm hx).1
 rw [c2 (by rfl)]
 refine run2 (o:=.ret _) (ρ:=[some (thg R sg),some (tns R sg),some (sI x),none,none,none,none,none,none,none]) rfl rfl ?_
 refine (exs_n (ρ':=[some (thg R sg),some (tns R sg),some (sI x),some (.dict (dF [])),none,none,none,none,none,none]) rfl).trans ?_
 refine (exs_n (ex_while hy)).trans ?_
 exact exs_r rfl
noncomputable def HH (m:Nat):Prop:=∀ y∈sds m,∀ z∈sds m,khash (kI y)=khash (kI z)->y=z
theorem hsh_nodup {S:List (Nat×Bool)} {hsh:Key->Int} (h:∀ y∈S,∀ z∈S,hsh (kI y)=hsh (kI z)->y=z):∀ {F:List (Nat×Bool)},F.Nodup->(∀ y∈F,y∈S)->((dF F).map fun p=>hsh p.1).Nodup
 | [],_,_=>by simp [dF]
 | x::F,hn,hF=>by
  have h1:=List.nodup_cons.1 hn
  show (hsh (kI x)::(dF F).map fun p=>hsh p.1).Nodup
  refine List.nodup_cons.2 ⟨?_,hsh_nodup h h1.2 (fun y hy=>hF y (by simp [hy]))⟩
  intro hm
  simp only [dF,List.map_map] at hm
  obtain ⟨y,hy,e⟩:=List.mem_map.1 hm
  have:=h y (hF y (by simp [hy])) x (hF x (by simp)) e
  subst this;exact h1.1 hy
theorem HH.nodup {m:Nat} (h:HH m) {F:List (Nat×Bool)} (hn:F.Nodup) (hF:∀ y∈F,y∈sds m):((dF F).map fun p=>khash p.1).Nodup:=hsh_nodup (hsh:=khash) h hn hF
noncomputable def fcB:List PS:=[(.ite (.cmp .notIn (.tup [(.var 4),(.var 5)]) (.var 2)) [(.update 2 (.call 1 false [(.var 0),(.var 1),(.tup [(.var 4),(.var 5)])])),(.assign 3 (.bin .add (.var 3) (.const (.int 1))))] [])]
noncomputable def fcρ (R:List (Nat×Bool)) (sg:Nat->Int) (a:List Sd×Nat) (g v:Option PV):Slots:=[some (thg R sg),some (tns R sg),some (.dict (dF a.1)),some (.int a.2),g,v,none,none,none,none,none,none]
theorem fc_step (o:Code w R) (hsg:Sg sg) (hm:R.length<=1000) (hh:HH R.length) {n:Nat} {a:List Sd×Nat} (I:GI R a.1) {x:Sd} (hx:x∈sds R.length):
  GI R (stR R a x).1/\exs (callN f7_all (n+2)) (fcρ R sg a (some (.int x.1)) (some (.int (if x.2 then 1 else -1)))) fcB=.ok (.next (fcρ R sg (stR R a x) (some (.int x.1)) (some (.int (if x.2 then 1 else -1))))):=by
 obtain ⟨G,c⟩:=a
 have e1:isin (.tuple [.int x.1,.int (if x.2 then 1 else -1)]) (.dict (dF G))=.ok (decide (x∈G)):=isin_dF
 by_cases hG:x∈G
 ·rw [show stR R (G,c) x=(G,c) from if_pos hG]
  refine ⟨I,(exs_n (ex_skip ?_)).trans exs_0⟩
  show (((isin (.tuple [.int x.1,.int (if x.2 then 1 else -1)]) (.dict (dF G))).bind _).bind _)=_
  rw [e1,decide_eq_true hG];rfl
 ·rw [show stR R (G,c) x=(G++orb R x,c+1) from if_neg hG]
  refine ⟨I.step o hm hx hG,?_⟩
  obtain ⟨_,h2,h3,_⟩:=orb_is o hm hx
  have hl1:=nodup_le I.nd I.sub
  have hl2:=nodup_le h2 h3
  rw [sds_len] at hl1 hl2
  have h5:(dF G).length+(dF (orb R x)).length < lim:=by rw [dF,dF,List.length_map,List.length_map,lim];exact o154 hm hl1 hl2
  have hc:(dfits (dF G) (.tup [])&&dfits (dF (orb R x)) (.tup [])&&decide ((dF G).length+(dF (orb R x)).length < lim)&&(!(dF G).isEmpty||decide (((dF (orb R x)).map fun p=>khash p.1).Nodup)))=true:=by
   rw [dF_fits,dF_fits,decide_eq_true h5,decide_eq_true (hh.nodup h2 h3),Bool.or_true];rfl
  have h1':callN f7_all (n+2) 1 [thg R sg,tns R sg,.tuple [.int x.1,.int (if x.2 then 1 else -1)]]=.ok (.dict (dF (orb R x))):=face_of o hsg hm hx
  refine (exs_n ?_).trans exs_0
  have c':ev (callN f7_all (n+2)) (fcρ R sg (G,c) (some (.int x.1)) (some (.int (if x.2 then 1 else -1)))) (.cmp .notIn (.tup [(.var 4),(.var 5)]) (.var 2))=.ok (.bool true):=by
   show (((isin (.tuple [.int x.1,.int (if x.2 then 1 else -1)]) (.dict (dF G))).bind _).bind _)=_
   rw [e1,decide_eq_false hG];rfl
  rw [ex_ite c',if_pos rfl]
  refine (exs_n (ex_update (l:=dF G) rfl (ev_call rfl h1') hc)).trans ((exs_n rfl).trans ?_)
  rw [exs_0,dF_upd h2 (I.apart o hm hx hG)];rfl
noncomputable def fcO:List PS:=[(.for_ (.one 5) .seq [(.tup [(.const (.int 1)),(.neg (.const (.int 1)))])] fcB)]
theorem fc_inner (o:Code w R) (hsg:Sg sg) (hm:R.length<=1000) (hh:HH R.length) {n:Nat} {a:List Sd×Nat} (I:GI R a.1) {g:Nat} {v:Option PV} (hg:g < R.length+2):
  GI R ([(g,true),(g,false)].foldl (stR R) a).1/\exs (callN f7_all (n+2)) (fcρ R sg a (some (.int g)) v) fcO=.ok (.next (fcρ R sg ([(g,true),(g,false)].foldl (stR R) a) (some (.int g)) (some (.int (-1))))):=by
 obtain ⟨I1,e1⟩:=fc_step o hsg hm hh (n:=n) I (x:=(g,true)) (mem_sds.2 hg)
 obtain ⟨I2,e2⟩:=fc_step o hsg hm hh (n:=n) I1 (x:=(g,false)) (mem_sds.2 hg)
 refine ⟨I2,?_⟩
 unfold fcO
 refine (exs_n (ex_for (xs:=[.tuple [.int 1,.int (-1)]]) (ds:=[.int 1,.int (-1)]) rfl rfl ?_)).trans exs_0
 exact (forGo_n (ρ1:=fcρ R sg a (some (.int g)) (some (.int 1))) rfl e1).trans (forGo_n (ρ1:=fcρ R sg (stR R a (g,true)) (some (.int g)) (some (.int (-1)))) rfl e2)
theorem fc_outer (o:Code w R) (hsg:Sg sg) (hm:R.length<=1000) (hh:HH R.length) {n:Nat}:∀ {gs:List Nat} {a:List Sd×Nat} {u v:Option PV},GI R a.1->(∀ g∈gs,g < R.length+2) ->
  ∃ u' v',forGo (fun ρ'=>exs (callN f7_all (n+2)) ρ' fcO) (.one 4) (gs.map fun (g:Nat)=>PV.int (0+(g:Int))) (fcρ R sg a u v)=.ok (.next (fcρ R sg ((gs.flatMap fun g=>[(g,true),(g,false)]).foldl (stR R) a) u' v'))
 | [],a,u,v,I,_=>⟨u,v,rfl⟩
 | g::gs,a,u,v,I,hg=>by
  obtain ⟨I1,e1⟩:=fc_inner o hsg hm hh (n:=n) I (g:=g) (v:=v) (hg g List.mem_cons_self)
  obtain ⟨u2,v2,e2⟩:=fc_outer o hsg hm hh (n:=n) (gs:=gs) (u:=some (.int g)) (v:=some (.int (-1))) I1 (fun x hx=>hg x (List.mem_cons_of_mem _ hx))
  refine ⟨u2,v2,?_⟩
  rw [List.map_cons,List.flatMap_cons,List.foldl_append]
  exact (forGo_n (ρ1:=fcρ R sg a (some (.int g)) v) (by simp [tgt1,fcρ]) e1).trans e2
theorem face_count (o:Code w R) (hsg:Sg sg) (hm:R.length<=1000) (hh:HH R.length) {n:Nat}:callN f7_all (n+3) 2 [thg R sg,tns R sg]=.ok (.int (cntR R)):=by
 obtain ⟨u,v,e⟩:=fc_outer o hsg hm hh (n:=n) (gs:=List.range (R.length+2)) (a:=([],0)) (u:=none) (v:=none) GI.nil (fun g hg=>List.mem_range.1 hg)
 rw [c2 (by rfl)]
 refine run2 (o:=.ret _) (ρ:=[some (thg R sg),some (tns R sg),none,none,none,none,none,none,none,none,none,none]) rfl rfl ?_
 refine (exs_n (ρ':=[some (thg R sg),some (tns R sg),some (.dict []),none,none,none,none,none,none,none,none,none]) rfl).trans ?_
 refine (exs_n (ρ':=fcρ R sg ([],0) none none) rfl).trans ?_
 refine (exs_n (ex_for (xs:=[.int (R.length+2)]) (ds:=(List.range (R.length+2)).map fun (g:Nat)=>PV.int (0+(g:Int))) ?_ ?_ e)).trans ?_
 ·have h1:(((dps R sg++[0]).map PV.int).length:Int)+1=(R.length:Int)+2:=by simp [dps];exact o151
  show Res.ok [PV.int ((((dps R sg++[0]).map PV.int).length:Int)+1)]=_
  rw [h1]
 ·have:((R.length:Int)+2).toNat=R.length+2:=by exact v74
  have h3:(R.length:Int)+2<=(lim:Nat):=by simp [lim];exact o152 hm
  have h4:(0:Int)<=(R.length:Int)+2:=by exact o153
  rw [items_range,decide_eq_true h4,decide_eq_true h3,if_pos (show (true&&true)=true from rfl),upto,Int.sub_zero,this]
 ·exact exs_r rfl
end
end Mine.Internal
end
section
set_option backward.eqns.nonrecursive false
namespace Mine.Internal
open PySem
noncomputable def tI (l:List Int):PV:=.tuple (l.map .int)
noncomputable def dI (p:List Int×List Int):PV:=.tuple [tI p.1,tI p.2]
theorem is_number {n:Nat} (i:Int):callN f7_all (n+1) 3 [.int i]=.ok (.bool true):=by
 rw [c2 (by rfl)];rfl
theorem law_whole {n:Nat} (i:Int):callN f7_all (n+1) 16 [.int i]=.ok (.bool true):=by
 rw [c2 (by rfl)];rfl
theorem ev_bin {cf:Nat->List PV->Res PV} {ρ:Slots} {o:BOp} {a b:PE} {x y d:PV} (h1:ev cf ρ a=.ok x) (h2:ev cf ρ b=.ok y) (h:binop o x y=.ok d):ev cf ρ (.bin o a b)=.ok d:=by rw [vE6,h1,bindK,h2];exact h
theorem ev_cmp {cf:Nat->List PV->Res PV} {ρ:Slots} {o:COp} {a b:PE} {x y:PV} {r:Bool} (h1:ev cf ρ a=.ok x) (h2:ev cf ρ b=.ok y) (h:cmpop o x y=.ok r):ev cf ρ (.cmp o a b)=.ok (.bool r):=by rw [vE9,h1,bindK,h2,bindK,h];rfl
theorem evOr_f {cf:Nat->List PV->Res PV} {ρ:Slots} {e:PE} {r:List PE} (h:ev cf ρ e=.ok (.bool false)):evOr cf ρ (e::r)=evOr cf ρ r:=by rw [evOrC,h];rfl
theorem ev_or {cf:Nat->List PV->Res PV} {ρ:Slots} {l:List PE} {b:Bool} (h:evOr cf ρ l=.ok b):ev cf ρ (.or l)=.ok (.bool b):=by rw [vE12,h];rfl
theorem ev_not {cf:Nat->List PV->Res PV} {ρ:Slots} {e:PE} {b:Bool} (h:ev cf ρ e=.ok (.bool b)):ev cf ρ (.not e)=.ok (.bool (!b)):=by rw [vE8,h];rfl
theorem evAnd_b {cf:Nat->List PV->Res PV} {ρ:Slots} {e:PE} {r:List PE} {b:Bool} (h:ev cf ρ e=.ok (.bool b)):evAnd cf ρ (e::r)=if b then evAnd cf ρ r else .ok false:=by rw [evAndC,h];rfl
theorem ev_and {cf:Nat->List PV->Res PV} {ρ:Slots} {l:List PE} {b:Bool} (h:evAnd cf ρ l=.ok b):ev cf ρ (.and l)=.ok (.bool b):=by rw [vE11,h];rfl
theorem ex_ret {cf:Nat->List PV->Res PV} {ρ:Slots} {e:PE} {d:PV} (h:ev cf ρ e=.ok d):ex cf ρ (.ret e)=.ok (.ret d):=by rw [xE11,h];rfl
section
variable {w:Nat} {R:List Sd} {sg:Nat->Int}
theorem ordL_len (o:Code w R):(ordL R).length=w:=by
 have h1:=nodup_le (l:=ordL R) (m:=List.range w) nd_ordL (fun l hl=>by
  obtain ⟨b,h⟩:=mem_ordL.1 hl;exact List.mem_range.2 ((o.mem l b).1 h))
 have h2:=nodup_le (l:=List.range w) (m:=ordL R) List.nodup_range (fun l hl=>mem_ordL.2 ⟨true,(o.mem l true).2 (List.mem_range.1 hl)⟩)
 rw [List.length_range] at h1 h2;exact u139 h1 h2
theorem fold_rv {q:Nat->Nat} (hsg:Sg sg) {S:Nat->Prop} (hq:∀ k l,S k->S l->q k=q l->k=l):∀ {R2:List Sd} {o:List Nat},(∀ x∈R2,S x.1)->(∀ l∈o,S l)->(R2.map (rv q sg)).foldl ordS (o.map fun l=>(q l:Int)+1)=(ordG o R2).map fun l=>(q l:Int)+1
 | [],_,_,_=>rfl
 | x::R2,o,h1,h2=>by
  have hx:=h1 x List.mem_cons_self
  have step:ordS (o.map fun l=>(q l:Int)+1) (rv q sg x)=(if x.1∈o then o else o++[x.1]).map fun l=>(q l:Int)+1:=by
   unfold ordS
   rw [rv_abs hsg]
   have:((q x.1:Int)+1)∈(o.map fun l=>(q l:Int)+1)↔x.1∈o:=by
    rw [List.mem_map]
    exact ⟨fun ⟨l,hl,e⟩=>by rw [<-hq l x.1 (h2 l hl) hx (by exact u84 e)];exact hl,fun h=>⟨_,h,rfl⟩⟩
   by_cases c:x.1∈o
   ·rw [if_pos (this.2 c),if_pos c]
   ·rw [if_neg fun z=>c (this.1 z),if_neg c,List.map_append];rfl
  rw [List.map_cons,List.foldl_cons,step]
  refine fold_rv hsg hq (fun y hy=>h1 y (List.mem_cons_of_mem _ hy)) fun l hl=>?_
  split at hl
  ·exact h2 l hl
  ·rcases List.mem_append.1 hl with h | h
   ·exact h2 l h
   ·rw [List.mem_singleton.1 h];exact hx
theorem dps_nodup (o:Code w R) (hsg:Sg sg):(dps R sg).Nodup:=by
 have key:∀ {S:List Sd},S.Nodup->(∀ x∈S,x∈R)->(S.map (rv (qL R) sg)).Nodup:=by
  intro S
  induction S with
  | nil=>intro _ _;exact List.nodup_nil
  | cons x S ih=>
   intro hn hs
   obtain ⟨h1,h2⟩:=List.nodup_cons.1 hn
   refine List.nodup_cons.2 ⟨fun q=>?_,ih h2 fun y hy=>hs y (List.mem_cons_of_mem _ hy)⟩
   obtain ⟨y,hy,e⟩:=List.mem_map.1 q
   exact h1 (rv_inj' o hsg (hs y (List.mem_cons_of_mem _ hy)) (hs x List.mem_cons_self) e ▸ hy)
 exact key o.nd fun _ h=>h
theorem dps_good (o:Code w R) (hsg:Sg sg):Good w (dps R sg):=by
 have hm:∀ x∈R,x.1∈ordL R:=fun x hx=>mem_ordL.2 ⟨x.2,hx⟩
 have hq:∀ l∈ordL R,qL R l < w:=fun l hl=>by rw [<-ordL_len o];exact idxOf_lt_of_mem hl
 refine ⟨dps_nodup o hsg,fun i hi=>?_,?_,by rw [dps,List.length_map,code_len o]⟩
 ·obtain ⟨x,hx,rfl⟩:=List.mem_map.1 hi
  refine ⟨rv_ne hsg,?_⟩
  rw [rv_abs hsg]
  have:=hq _ (hm x hx);exact u88 this
 ·have:=fold_rv (q:=qL R) hsg (S:=fun l=>l∈ordL R) (fun k l hk hl e=>qL_inj hk hl e) (R2:=R) (o:=[]) hm fun l hl=>absurd hl List.not_mem_nil
  rw [List.map_nil] at this
  unfold dps
  rw [this]
  show (ordL R).map _=_
  refine List.ext_getElem? fun k=>?_
  unfold up1
  rw [List.getElem?_map,List.getElem?_map]
  by_cases h:k < w
  ·have hk:k < (ordL R).length:=by rw [ordL_len o];exact h
   rw [List.getElem?_eq_getElem hk,List.getElem?_range h]
   refine congrArg some ?_
   show (((ordL R).idxOf (ordL R)[k]:Nat):Int)+1=(k:Int)+1
   rw [nd_ordL.idxOf_getElem k hk]
  ·rw [List.getElem?_eq_none_iff.2 (by rw [ordL_len o];exact u4 h),List.getElem?_eq_none_iff.2 (by rw [List.length_range];exact u4 h)];rfl
theorem dts_ok (hsg:Sg sg):∀ t∈dts R sg,t=1\/t=-1:=fun t ht=>by
 obtain ⟨l,_,rfl⟩:=List.mem_map.1 ht;exact hsg l
theorem dts_len (o:Code w R):(dts R sg).length=w:=by unfold dts;rw [List.length_map];exact ordL_len o
end
noncomputable def dE (l:List Int):List (Key×PV):=l.map fun i=>(Key.int i,PV.bool true)
theorem dE_fits {l:List Int} {i:Int}:dfits (dE l) (.int i)=true:=by simp [dfits,dE,sameII]
theorem dE_has {l:List Int} {i:Int}:dhas (dE l) (.int i)=decide (i∈l):=by
 rw [Bool.eq_iff_iff]
 unfold dhas dE
 rw [List.any_eq_true,decide_eq_true_iff]
 constructor
 ·rintro ⟨p,hp,e⟩
  obtain ⟨y,hy,rfl⟩:=List.mem_map.1 hp
  rw [<-Key.int.inj (of_decide_eq_true e)];exact hy
 ·intro h;exact ⟨(.int i,.bool true),List.mem_map.2 ⟨i,h,rfl⟩,decide_eq_true rfl⟩
theorem dE_put {l:List Int} {i:Int} (h:i∉l):dput (dE l) (.int i) (.bool true)=dE (l++[i]):=by
 unfold dput;rw [dE_has,decide_eq_false h,if_neg Bool.false_ne_true];unfold dE;rw [List.map_append];rfl
noncomputable def apρ (P:PV) (n met:Nat) (seen:List Int) (u:Option PV):Slots:=[some P,some (.int n),some (.int met),some (.dict (dE seen)),u,none,none,none,none,none,none]
noncomputable def apB:List PS:=[(.ite (.or [(.not (.call 3 false [(.var 4)])),(.cmp .eq (.var 4) (.const (.int 0))),(.cmp .gt (.prim .abs [(.var 4)]) (.var 1)),(.cmp .isIn (.var 4) (.var 3))]) [(.ret (.const (.bool false)))] []),(.ite (.cmp .notIn (.bin .sub (.const (.int 0)) (.var 4)) (.var 3)) [(.assign 2 (.bin .add (.var 2) (.const (.int 1)))),(.ite (.cmp .ne (.prim .abs [(.var 4)]) (.var 2)) [(.ret (.const (.bool false)))] [])] []),(.setItem 3 (.var 4) (.const (.bool true)))]
section
variable {cf:Nat->List PV->Res PV} {P:PV} {n met:Nat} {seen:List Int} {i:Int}
theorem ap_or (hnum:∀ i:Int,cf 3 [.int i]=.ok (.bool true)) (c:¬ (i=0\/(n:Int) < absI i\/i∈seen)):ev cf (apρ P n met seen (some (.int i))) (.or [(.not (.call 3 false [(.var 4)])),(.cmp .eq (.var 4) (.const (.int 0))),(.cmp .gt (.prim .abs [(.var 4)]) (.var 1)),(.cmp .isIn (.var 4) (.var 3))])=.ok (.bool false):=by
 have h1:(i==0)=false:=beq_eq_false_iff_ne.2 fun h=>c (.inl h)
 have h2:decide ((n:Int) < absI i)=false:=decide_eq_false fun h=>c (.inr (.inl h))
 have h3:decide (i∈seen)=false:=decide_eq_false fun h=>c (.inr (.inr h))
 refine ev_or ((evOr_f (ev_not (b:=true) (ev_call (xs:=[.int i]) rfl (hnum _)))).trans ?_)
 refine (evOr_f (h1 ▸ rfl)).trans ((evOr_f (h2 ▸ rfl)).trans ((evOr_f ?_).trans evOrN))
 show ((isin (.int i) (.dict (dE seen))).bind _)=_
 rw [isin_int dE_fits,dE_has,h3];rfl
theorem ap_new {b:Bool} (h:decide (-i∈seen)=b):ev cf (apρ P n met seen (some (.int i))) (.cmp .notIn (.bin .sub (.const (.int 0)) (.var 4)) (.var 3))=.ok (.bool (!b)):=by
 show (((isin (.int (0-i)) (.dict (dE seen))).bind _).bind _)=_
 rw [isin_int dE_fits,dE_has,Int.zero_sub,h];rfl
theorem ap_step (hnum:∀ i:Int,cf 3 [.int i]=.ok (.bool true)) (hl:seen.length < lim) (c1:¬ (i=0\/(n:Int) < absI i\/i∈seen)) {met':Nat} (c2:if -i∈seen then met'=met else absI i=(met:Int)+1/\met'=met+1):
  exs cf (apρ P n met seen (some (.int i))) apB=.ok (.next (apρ P n met' (seen++[i]) (some (.int i)))):=by
 have his:i∉seen:=fun h=>c1 (.inr (.inr h))
 refine (exs_n (ex_skip (ap_or hnum c1))).trans ?_
 have hset:exs cf (apρ P n met' seen (some (.int i))) [.setItem 3 (.var 4) (.const (.bool true))]=.ok (.next (apρ P n met' (seen++[i]) (some (.int i)))):=by
  refine (exs_n ((ex_setItem (l:=dE seen) rfl rfl rfl rfl dE_fits (by unfold dE;rw [List.length_map];exact hl)).trans ?_)).trans exs_0
  rw [dE_put his];rfl
 by_cases q:-i∈seen
 ·rw [if_pos q] at c2;subst c2
  exact (exs_n (ex_skip (ap_new (decide_eq_true q)))).trans hset
 ·rw [if_neg q] at c2
  obtain ⟨c3,rfl⟩:=c2
  refine (exs_n (ρ':=apρ P n (met+1) seen (some (.int i))) ?_).trans hset
  rw [ex_ite (ap_new (decide_eq_false q))]
  refine (exs_n (ρ':=apρ P n (met+1) seen (some (.int i))) rfl).trans ((exs_n (ex_skip ?_)).trans exs_0)
  show Res.ok (PV.bool (!(absI i==((met:Int)+1))))=_
  rw [c3,beq_self_eq_true];rfl
theorem ap_go (hnum:∀ i:Int,cf 3 [.int i]=.ok (.bool true)) {m:Nat}:∀ {is seen:List Int} {met:Nat} {u:Option PV},seen.length+is.length < lim->apI n m is seen met=true ->
  ∃ seen' u',forGo (fun ρ'=>exs cf ρ' apB) (.one 4) (is.map .int) (apρ P n met seen u)=.ok (.next (apρ P n n seen' u'))
 | [],seen,met,u,_,h=>by
  rw [apN,Bool.and_eq_true] at h
  exact ⟨seen,u,by rw [of_decide_eq_true h.2];rfl⟩
 | i::is,seen,met,u,hl,h=>by
  rw [List.length_cons] at hl
  rw [apC] at h
  by_cases c1:i=0\/(n:Int) < absI i\/i∈seen
  ·rw [if_pos c1] at h;cases h
  ·rw [if_neg c1] at h
   have go:∀ {met':Nat},(if -i∈seen then met'=met else absI i=(met:Int)+1/\met'=met+1)->apI n m is (seen++[i]) met'=true->∃ seen' u',forGo (fun ρ'=>exs cf ρ' apB) (.one 4) ((i::is).map .int) (apρ P n met seen u)=.ok (.next (apρ P n n seen' u')):=fun c2 h=>by
    obtain ⟨s',u',e⟩:=ap_go hnum (m:=m) (is:=is) (seen:=seen++[i]) (u:=some (.int i)) (by rw [List.length_append,List.length_singleton];exact u179 hl) h
    exact ⟨s',u',(forGo_n (ρ1:=apρ P n met seen (some (.int i))) rfl (ap_step hnum (by exact u177 hl) c1 c2)).trans e⟩
   by_cases c2:-i∈seen
   ·rw [if_pos c2] at h;exact go (by rw [if_pos c2]) h
   ·rw [if_neg c2] at h
    by_cases c3:absI i=(met:Int)+1
    ·rw [if_pos c3] at h;exact go (by rw [if_neg c2];exact ⟨c3,rfl⟩) h
    ·rw [if_neg c3] at h;cases h
end
theorem are_passes {k n:Nat} {is:List Int} (g:Good n is) (hn:n<=40):callN f7_all (k+2) 5 [tI is,.int n]=.ok (.bool true):=by
 have hl:=g.len
 rw [c2 (by rfl)]
 obtain ⟨seen',u',e⟩:=ap_go (cf:=callN f7_all (k+1)) (P:=tI is) (n:=n) (m:=is.length) (fun i=>is_number i) (is:=is) (seen:=[]) (met:=0) (u:=none) (by rw [List.length_nil];unfold lim;exact wa20 hn hl) (apI_good g)
 refine run2 (o:=.ret _) (ρ:=[some (tI is),some (.int n),none,none,none,none,none,none,none,none,none]) rfl rfl ?_
 refine (exs_n (ρ':=[some (tI is),some (.int n),some (.int 0),none,none,none,none,none,none,none,none]) rfl).trans ((exs_n (ρ':=apρ (tI is) n 0 [] none) rfl).trans ((exs_n (ex_for (xs:=[tI is]) (ds:=is.map .int) rfl rfl e)).trans (exs_r (ex_ret (ev_and ?_)))))
 have e3:ev (callN f7_all (k+1)) (apρ (tI is) n n seen' u') (.cmp .eq (.prim .len [(.var 0)]) (.bin .mul (.const (.int 2)) (.var 1)))=.ok (.bool true):=by
  rw [vE9,show ev (callN f7_all (k+1)) (apρ (tI is) n n seen' u') (.bin .mul (.const (.int 2)) (.var 1))=.ok (.int (2*n)) from ev_mul rfl rfl (by decide) (by unfold big;simp;exact wa21 hn)]
  show Res.ok (PV.bool ((((is.map PV.int).length:Nat):Int)==2*(n:Int)))=_
  rw [List.length_map,hl,show (((2*n:Nat):Int)==2*(n:Int))=true from beq_self_eq_true _]
 refine (evAnd_b e3).trans ((if_pos rfl).trans ((evAnd_b (b:=true) ?_).trans rfl))
 show Res.ok (PV.bool ((n:Int)==(n:Int)))=_
 rw [beq_self_eq_true]
end Mine.Internal
end
section
namespace Mine.Internal
open PySem
theorem flats_int:∀ (l:List Int),PV.flats (l.map .int)=true
 | []=>rfl
 | _::l=>flats_int l
theorem depths_int:∀ (l:List Int),PV.depths (l.map .int)=0
 | []=>rfl
 | _::l=>by rw [List.map_cons,depsC,depths_int l];rfl
theorem eqs_int:∀ (a b:List Int),PV.eqs (a.map .int) (b.map .int)=decide (a=b)
 | [],[]=>rfl
 | [],_::_=>rfl
 | _::_,[]=>rfl
 | x::a,y::b=>by
  rw [List.map_cons,List.map_cons,eqsC,eqII,eqs_int a b,Bool.eq_iff_iff,Bool.and_eq_true,beq_iff_eq,decide_eq_true_iff,decide_eq_true_iff,List.cons.injEq]
end Mine.Internal
end
section
set_option backward.eqns.nonrecursive false
namespace Mine.Internal
open PySem
theorem comp_map {elt:Slots->Res PV} {cond:Slots->Res Bool} {i:Nat} {f:PV->PV}:∀ {ds:List PV} {ρ:Slots},(∀ d∈ds,cond (ρ.set i (some d))=.ok true/\elt (ρ.set i (some d))=.ok (f d))->compGo elt cond (.one i) ds ρ=.ok (ds.map f)
 | [],_,_=>rfl
 | d::ds,ρ,h=>by
  have h1:=h d (by simp)
  have:=comp_map (ds:=ds) (ρ:=ρ.set i (some d)) (elt:=elt) (cond:=cond) (f:=f) (i:=i) (fun d' hd=>by
   rw [List.set_set];exact h d' (by simp [hd]))
  simp [compC,tgt1,bindK,h1,this]
theorem ev_comp {cf:Nat->List PV->Res PV} {ρ:Slots} {elt:PE} {t:Tgt} {k:ItK} {src conds:List PE} {xs ds ys:List PV} (hs:evs cf ρ src=.ok xs) (hi:items k xs=.ok ds) (h:compGo (fun ρ'=>ev cf ρ' elt) (fun ρ'=>evAnd cf ρ' conds) t ds (clr t ρ)=.ok ys) (hl:ys.length<=lim):ev cf ρ (.comp elt t k src conds)=.ok (.list ys):=by
 rw [vE22];simp only [hs,bindK,hi,h,noExc,mkL,hl,if_true]
theorem dT_app (a:List Int) (t:Int):dT (a++[t])=dT a++[(.int ((a.length:Int)+1),.int t)]:=by
 simp [dT,List.zipIdx_append]
theorem dT_new {a:List Int} {k:Nat} (h:a.length<=k):dhas (dT a) (.int ((k:Int)+1))=false:=by
 rw [Bool.eq_false_iff];intro hh
 unfold dhas dT at hh
 rw [List.any_eq_true] at hh
 obtain ⟨p,hp,e⟩:=hh
 obtain ⟨⟨v,j⟩,hy,rfl⟩:=List.mem_map.1 hp
 have:=List.mem_zipIdx hy
 have e:=of_decide_eq_true e
 simp at e;exact (o155 h this.2.1 e).elim
theorem dT_put {a:List Int} {t:Int}:dput (dT a) (.int ((a.length:Int)+1)) (.int t)=dT (a++[t]):=by
 unfold dput;rw [dT_new (Nat.le_refl _),dT_app];simp
theorem to_go {n:Nat} {D:PV}:∀ {ts a:List Int} {u v:Option PV},a.length+ts.length < 1000 ->
  ∃ u' v',forGo (fun ρ'=>exs (callN f7_all n) ρ' [(.setItem 1 (.bin .add (.var 2) (.const (.int 1))) (.var 3))]) (.many [2,3]) (((ts.map PV.int).zipIdx a.length).map fun p=>PV.tuple [.int p.2,p.1]) [some D,some (.dict (dT a)),u,v,none,none,none,none,none,none]=.ok (.next [some D,some (.dict (dT (a++ts))),u',v',none,none,none,none,none,none])
 | [],a,u,v,_=>⟨u,v,by simp [forN]⟩
 | t::ts,a,u,v,h=>by
  obtain ⟨u',v',e⟩:=to_go (n:=n) (D:=D) (ts:=ts) (a:=a++[t]) (u:=some (.int a.length)) (v:=some (.int t)) (by simp at h ⊢;exact o156 h)
  refine ⟨u',v',?_⟩
  have e2:a++[t]++ts=a++t::ts:=by simp
  rw [e2,List.length_append,List.length_singleton] at e
  refine Eq.trans ?_ e
  rw [List.map_cons,List.zipIdx_cons,List.map_cons]
  refine forGo_n (ρ1:=[some D,some (.dict (dT a)),some (.int a.length),some (.int t),none,none,none,none,none,none]) (by simp [tgtM]) ?_
  have hl:(dT a).length < 16777216:=by simp [dT] at h ⊢;exact o158 h
  simp [exsN,exsC,xE4,vE1,vE2,vE6,slot,bindK,bopA,addVI,lim,keyI,dT_fits,hl,dT_put]
theorem turns_of {n:Nat} {p:List Int×List Int} (h:p.2.length < 1000):callN f7_all (n+1) 4 [dI p]=.ok (.dict (dT p.2)):=by
 obtain ⟨u,v,e⟩:=to_go (n:=n) (D:=dI p) (ts:=p.2) (a:=[]) (u:=none) (v:=none) (by simpa using h)
 rw [c2 (by rfl)]
 refine run2 (o:=.ret _) (ρ:=[some (dI p),none,none,none,none,none,none,none,none,none]) rfl rfl ?_
 refine (exs_n (ρ':=[some (dI p),some (.dict (dT [])),none,none,none,none,none,none,none,none]) rfl).trans ?_
 refine (exs_n (ex_for (xs:=[tI p.2]) rfl rfl e)).trans ?_
 exact exs_r rfl
theorem hh80:((sds 80).map fun y=>khash (kI y)).Nodup:=by decide +kernel
theorem nodup_inj {α β:Type} {f:α->β}:∀ {l:List α},(l.map f).Nodup->∀ y∈l,∀ z∈l,f y=f z->y=z
 | [],_,y,hy,_,_,_=>absurd hy List.not_mem_nil
 | a::l,h,y,hy,z,hz,e=>by
  rw [List.map_cons,List.nodup_cons] at h
  rcases List.mem_cons.1 hy with h1 | h1<;>rcases List.mem_cons.1 hz with h2 | h2
  ·rw [h1,h2]
  ·exact absurd (List.mem_map.2 ⟨z,h2,by rw [<-e,h1]⟩) h.1
  ·exact absurd (List.mem_map.2 ⟨y,h1,by rw [e,h2]⟩) h.1
  ·exact nodup_inj h.2 y h1 z h2 e
theorem hh_le {m:Nat} (h:m<=80):HH m:=fun y hy z hz e=>
 nodup_inj (f:=fun y=>khash (kI y)) hh80 y (mem_sds.2 (by have:=mem_sds.1 hy;exact u187 h this)) z (mem_sds.2 (by have:=mem_sds.1 hz;exact u187 h this)) e
noncomputable def Dr (ps us:List Int):Prop:=∃ (w:Nat) (R:List Sd) (sg:Nat->Int),Code w R/\Sg sg/\w<=40/\cntR R=w+1/\ps=dps R sg/\us=dts R sg
theorem bools_t {α:Type}:∀ (l:List α),bools? (l.map fun _=>PV.bool true)=some (l.map fun _=>true)
 | []=>rfl
 | d::l=>by rw [List.map_cons,bools?,bools_t l];rfl
noncomputable def isρ (ps us:List Int):Slots:=[some (dI (ps,us)),some (tI ps),some (tI us),none,none,none,none,none,none]
section
variable {k:Nat} {ps us:List Int}
theorem dr_turns (hu:∀ t∈us,t=1\/t=-1) (hl:us.length<=40):ev (callN f7_all (k+1)) (isρ ps us) (.not (.prim .all [(.comp (.and [(.call 3 false [(.var 3)]),(.or [(.cmp .eq (.var 3) (.const (.int 1))),(.cmp .eq (.var 3) (.neg (.const (.int 1))))])]) (.one 3) .seq [(.var 2)] [])]))=.ok (.bool false):=by
 refine ev_not (b:=true) ?_
 have hc:ev (callN f7_all (k+1)) (isρ ps us) (.comp (.and [(.call 3 false [(.var 3)]),(.or [(.cmp .eq (.var 3) (.const (.int 1))),(.cmp .eq (.var 3) (.neg (.const (.int 1))))])]) (.one 3) .seq [(.var 2)] [])=.ok (.list ((us.map PV.int).map fun _=>.bool true)):=by
  refine ev_comp (xs:=[tI us]) (ds:=us.map .int) rfl rfl (comp_map fun d hd=>⟨rfl,ev_and ?_⟩) (by rw [List.length_map,List.length_map];unfold lim;exact wa23 hl)
  obtain ⟨t,ht,rfl⟩:=List.mem_map.1 hd
  refine (evAnd_b (b:=true) (ev_call (xs:=[.int t]) rfl (is_number t))).trans ?_
  rcases hu t ht with rfl | rfl<;>rfl
 rw [vE20,evsC,hc]
 show allB ((us.map PV.int).map fun _=>.bool true)=_
 unfold allB
 rw [bools_t]
 show Res.ok (PV.bool (((us.map PV.int).map fun _=>true).all id))=_
 rw [List.all_map];exact congrArg (fun b=>Res.ok (PV.bool b)) (List.all_eq_true.2 fun _ _=>rfl)
theorem is_dr (h:Dr ps us):callN f7_all (k+4) 6 [dI (ps,us)]=.ok (.bool true):=by
 obtain ⟨w,R,sg,hc,hs,hw,hn,hp,ht⟩:=h
 have g:Good w ps:=hp ▸ dps_good hc hs
 have hu:∀ t∈us,t=1\/t=-1:=ht ▸ dts_ok hs
 have hl:us.length=w:=ht ▸ dts_len hc
 have hR:R.length=2*w:=code_len hc
 have f1:callN f7_all (k+3) 2 [.list ((ps++[0]).map .int),.dict (dT us)]=.ok (.int ((w+1:Nat):Int)):=by rw [hp,ht,<-hn];exact face_count hc hs (by exact wa25 hw hR) (hh_le (by exact wa26 hw hR))
 have f2:=turns_of (n:=k+2) (p:=(ps,us)) (show us.length < 1000 by exact wa27 hw hl)
 have f5:=are_passes (k:=k+1) g hw
 rw [c2 (by rfl)]
 have f3:=dr_turns (k:=k+2) (ps:=ps) hu (by exact wa28 hw hl)
 generalize callN f7_all (k+3)=cf at *
 refine run2 (o:=.ret _) (ρ:=[some (dI (ps,us)),none,none,none,none,none,none,none,none]) rfl rfl ?_
 refine (exs_n (ρ':=[some (dI (ps,us)),none,none,none,none,none,none,none,none]) rfl).trans ((exs_n (ρ':=isρ ps us) rfl).trans ?_)
 have l2:ev cf (isρ ps us) (.prim .len [(.var 2)])=.ok (.int w):=by
  show Res.ok (PV.int ((us.map PV.int).length:Nat))=_
  rw [List.length_map,hl]
 refine (exs_n (ex_skip (ev_or ((evOr_f (ev_not (b:=true) rfl)).trans ((evOr_f (ev_not (b:=true) rfl)).trans ((evOr_f ?_).trans evOrN)))))).trans ?_
 ·rw [ev_cmp l2 (y:=.int 40) rfl rfl]
  show Res.ok (PV.bool (decide ((w:Int) > 40)))=_
  rw [decide_eq_false (by exact wa29 hw)]
 refine (exs_n (ex_skip f3)).trans ?_
 refine (exs_n (ex_skip (ev_or ((evOr_f ?_).trans ((evOr_f (ev_not (b:=true) (ev_call (xs:=[tI ps,.int w]) ?_ f5))).trans evOrN))))).trans ?_
 ·rw [ev_cmp (x:=.int ((2*w:Nat):Int)) (y:=.int (2*(w:Int))) (r:=!(((2*w:Nat):Int)==2*(w:Int))) ?_ (ev_mul rfl l2 (by decide) (by unfold big;simp;exact wa21 hw)) rfl,show (((2*w:Nat):Int)==2*(w:Int))=true from beq_self_eq_true _]
  ·rfl
  ·show Res.ok (PV.int ((ps.map PV.int).length:Nat))=_
   rw [List.length_map,g.len]
 ·rw [evsC,evsC,l2];rfl
 refine exs_r (ex_ret ?_)
 refine (ev_cmp (x:=.int ((w+1:Nat):Int)) (y:=.int ((w:Int)+1)) (r:=((w+1:Nat):Int)==(w:Int)+1) (ev_call (xs:=[.list ((ps++[0]).map .int),.dict (dT us)]) ?_ f1) (ev_bin (x:=.int w) (y:=.int 1) l2 rfl rfl) rfl).trans ?_
 ·have g1:ev cf (isρ ps us) (.bin .add (.prim .listOf [(.var 1)]) (.lst [(.const (.int 0))]))=.ok (.list ((ps++[0]).map .int)):=by
   rw [List.map_append]
   show (if (ps.map PV.int++[PV.int 0]).length<=lim then Res.ok (PV.list (ps.map PV.int++[PV.int 0])) else .stuck)=_
   rw [if_pos (by rw [List.length_append,List.length_singleton,List.length_map,g.len];unfold lim;exact wa30 hw)];rfl
  rw [evsC,g1,bindK,evsC,ev_call (xs:=[dI (ps,us)]) rfl f2];rfl
 ·rw [show (((w+1:Nat):Int)==(w:Int)+1)=true from beq_self_eq_true _]
theorem dr_rope {s:Nat} {v:List Nat} {R:List Sd} {sg:Nat->Int} (o:Rope s v R) (hsg:Sg sg) (hw:v.length<=10):Dr (dps R sg) (dts R sg):=
 ⟨_,R,sg,o.code,hsg,by exact wa22 hw,cnt_rope o (by rw [rope_len o];exact wa24 hw),rfl,rfl⟩
end
end Mine.Internal
end
section
namespace Mine.Internal
open PySem
theorem comp_map2 {α:Type} {elt:Slots->Res PV} {cond:Slots->Res Bool} {i:Nat} {a b:α->PV}:∀ {os:List α} {ρ:Slots},(∀ x∈os,cond (ρ.set i (some (a x)))=.ok true/\elt (ρ.set i (some (a x)))=.ok (b x))->compGo elt cond (.one i) (os.map a) ρ=.ok (os.map b)
 | [],_,_=>rfl
 | x::os,ρ,h=>by
  have h1:=h x (by simp)
  have:=comp_map2 (os:=os) (ρ:=ρ.set i (some (a x))) (elt:=elt) (cond:=cond) (a:=a) (b:=b) (i:=i) (fun d' hd=>by
   rw [List.set_set];exact h d' (by simp [hd]))
  simp [compC,tgt1,bindK,h1,this]
section
variable {q:Nat->Nat} {sg:Nat->Int} {R:List (Nat×Bool)}
noncomputable def QI (q:Nat->Nat) (R:List (Nat×Bool)):Prop:=∀ k∈ordL R,∀ l∈ordL R,q k=q l->k=l
theorem ord_snoc (R1:List (Nat×Bool)) (l:Nat) (b:Bool):ordL (R1++[(l,b)])=if l∈ordL R1 then ordL R1 else ordL R1++[l]:=by
 unfold ordL;rw [ordG_app];rfl
theorem ord_sub {R1 R2:List (Nat×Bool)} {l:Nat} (h:l∈ordL R1):l∈ordL (R1++R2):=by
 obtain ⟨b,hb⟩:=mem_ordL.1 h;exact mem_ordL.2 ⟨b,by simp [hb]⟩
theorem ordL_le (R:List (Nat×Bool)):(ordL R).length<=R.length:=by
 have:∀ (R:List (Nat×Bool)) (o:List Nat),(ordG o R).length<=o.length+R.length:=by
  intro R;induction R with
  | nil=>intro o;simp [ordG]
  | cons x R ih=>
   intro o
   have:=ih (if x.1∈o then o else o++[x.1])
   show (ordG (if x.1∈o then o else o++[x.1]) R).length<=_
   split at this<;>rename_i h<;>simp [h] at this ⊢<;>(first | exact o174 this | exact o175 this)
 simpa [ordL] using this R []
theorem rv_sgn (hsg:Sg sg) {q':Nat->Nat} (x:Nat×Bool):rv q' sg x=if 0 < rv q sg x then (q' x.1:Int)+1 else -((q' x.1:Int)+1):=by
 rcases rv_cases hsg (q:=q) (x:=x) with ⟨h,h2⟩ | ⟨h,h2⟩<;>rw [h]
 ·rw [if_pos (by exact o173)];unfold rv;rw [h2];exact v80
 ·rw [if_neg (by exact o176)];unfold rv;rw [h2];exact v81
end
section
variable {q:Nat->Nat} {sg:Nat->Int} {R:List (Nat×Bool)}
noncomputable def oI (q:Nat->Nat) (o:List Nat):List PV:=o.map fun l=>PV.int ((q l:Int)+1)
theorem flats_oI:∀ (o:List Nat),PV.flats (oI q o)=true
 | []=>rfl
 | _::o=>by simpa [oI,flatsN,flatsC,flatI,flatT] using flats_oI o
theorem any_oI {o:List Nat} {l:Nat} (hq:∀ k∈o,q k=q l->k=l):(oI q o).any (fun y=>PV.eq y (.int ((q l:Int)+1)))=decide (l∈o):=by
 rw [Bool.eq_iff_iff,List.any_eq_true,decide_eq_true_iff]
 constructor
 ·rintro ⟨p,hp,e⟩
  obtain ⟨k,hk,rfl⟩:=List.mem_map.1 hp
  simp [eqII] at e
  rw [<-hq k hk (by exact o148 e)];exact hk
 ·intro h;exact ⟨_,List.mem_map.2 ⟨l,h,rfl⟩,by simp [eqII]⟩
theorem isin_oI {o:List Nat} {l:Nat} (hq:∀ k∈o,q k=q l->k=l):isin (.int ((q l:Int)+1)) (.list (oI q o))=.ok (decide (l∈o)):=by
 simp only [isin,flats_oI,flatI,depI,any_oI hq];simp
theorem index_oI {o:List Nat} {l:Nat} (h:l∈o) (hq:∀ k∈o,q k=q l->k=l):indexIn (oI q o) (.int ((q l:Int)+1))=.ok (.int (o.idxOf l)):=by
 have e:oI q o=(o.map fun l=>((q l:Int)+1)).map PV.int:=by simp [oI]
 have:=idxOf?_map (f:=fun l=>((q l:Int)+1)) (M:=[]) h (fun k hk e=>hq k hk (by exact o182 e))
 rw [List.append_nil] at this
 simp only [indexIn,e,ints_map,this]
noncomputable def ln1:List PS:=[(.ite (.cmp .notIn (.prim .abs [(.var 3)]) (.var 2)) [(.append 2 (.prim .abs [(.var 3)]))] [])]
theorem ln_go1 {cf:Nat->List PV->Res PV} (hsg:Sg sg) (hq:QI q R) (hm:R.length<=1000) {P T:PV}:∀ {R2 R1:List (Nat×Bool)} {u:Option PV},R=R1++R2 ->
  ∃ u',forGo (fun ρ'=>exs cf ρ' ln1) (.one 3) (R2.map fun x=>PV.int (rv q sg x)) [some P,some T,some (.list (oI q (ordL R1))),u,none,none,none,none,none,none,none]=.ok (.next [some P,some T,some (.list (oI q (ordL R))),u',none,none,none,none,none,none,none])
 | [],R1,u,h=>⟨u,by simp at h;subst h;simp [forN]⟩
 | (l,b)::R2,R1,u,h=>by
  have h':R=(R1++[(l,b)])++R2:=by simp [h]
  obtain ⟨u',e⟩:=ln_go1 (cf:=cf) hsg hq hm (P:=P) (T:=T) (R2:=R2) (R1:=R1++[(l,b)]) (u:=some (.int (rv q sg (l,b)))) h'
  refine ⟨u',?_⟩
  refine Eq.trans ?_ e
  rw [List.map_cons]
  refine forGo_n (ρ1:=[some P,some T,some (.list (oI q (ordL R1))),some (.int (rv q sg (l,b))),none,none,none,none,none,none,none]) (by simp [tgt1]) ?_
  have hs:∀ k∈ordL R1,k∈ordL R:=fun k hk=>by rw [h];exact ord_sub hk
  have hl:l∈ordL R:=mem_ordL.2 ⟨b,by rw [h];simp⟩
  have hq':∀ k∈ordL R1,q k=q l->k=l:=fun k hk e=>hq k (hs k hk) l hl e
  have k1:(if rv q sg (l,b) < 0 then -rv q sg (l,b) else rv q sg (l,b))=(q l:Int)+1:=rv_abs hsg (x:=(l,b))
  have k2:=isin_oI hq'
  have k3:=ordL_le R1
  have k4:R1.length<=1000:=by rw [h] at hm;simp at hm;exact o178 hm
  have k5:(oI q (ordL R1)).length < 16777216:=by rw [oI,List.length_map];exact o180 k3 k4
  have k6:oI q (ordL R1++[l])=oI q (ordL R1)++[.int ((q l:Int)+1)]:=by simp [oI]
  rw [ord_snoc]
  by_cases hb:l∈ordL R1
  ·simp [ln1,exsN,exsC,xE5,xE8,vE1,vE9,vE20,evsN,evsC,slot,bindK,copNi,prAbs,p1K,absK,lim,k1,k2,hb]
  ·simp [ln1,exsN,exsC,xE5,xE8,vE1,vE9,vE20,evsN,evsC,slot,bindK,copNi,prAbs,p1K,absK,lim,k1,k2,hb,k5,k6]
theorem law_numbered {n:Nat} (hsg:Sg sg) (hq:QI q R) (hm:R.length<=1000) {P T:PV} (hP:items .seq [P]=.ok (R.map fun x=>PV.int (rv q sg x))) (hT:∀ l∈ordL R,getIdx T (.int ((q l:Int)+1))=.ok (.int (sg l))):
  callN f7_all (n+1) 17 [P,T]=.ok (dI (dps R sg,dts R sg)):=by
 rw [c2 (by rfl)]
 generalize callN f7_all n=cf
 obtain ⟨u1,e1⟩:=ln_go1 (cf:=cf) hsg hq hm (P:=P) (T:=T) (R2:=R) (R1:=[]) (u:=none) rfl
 refine run2 (o:=.ret _) (ρ:=[some P,some T,none,none,none,none,none,none,none,none,none]) rfl rfl ?_
 refine (exs_n (ρ':=[some P,some T,some (.list (oI q (ordL []))),none,none,none,none,none,none,none,none]) (by rfl)).trans ?_
 refine (exs_n (ex_for (xs:=[P]) (by rfl) hP e1)).trans ?_
 have hle:=ordL_le R
 have cm0:ev cf [some P,some T,some (.list (oI q (ordL R))),u1,none,none,none,none,none,none,none] (.comp (.bin .mul (.bin .add (.index (.var 2) (.prim .abs [(.var 5)])) (.const (.int 1))) (.idx (.lst [(.const (.int 1)),(.neg (.const (.int 1)))]) (.prim .intOf [(.cmp .lt (.var 5) (.const (.int 0)))]))) (.one 5) .seq [(.var 0)] [])=.ok (.list (R.map fun x=>PV.int (rv (qL R) sg x))):=by
  refine ev_comp (xs:=[P]) (ds:=R.map fun x=>PV.int (rv q sg x)) (by rfl) hP ?_ (by rw [List.length_map,lim];exact o185 hm)
  refine comp_map2 ?_
  rintro ⟨l,b⟩ hx
  have hl:l∈ordL R:=mem_ordL.2 ⟨b,hx⟩
  have k1:(if rv q sg (l,b) < 0 then -rv q sg (l,b) else rv q sg (l,b))=(q l:Int)+1:=rv_abs hsg (x:=(l,b))
  have k2:=index_oI (q:=q) hl (fun k hk e=>hq k hk l hl e)
  have k6:(ordL R).idxOf l=qL R l:=rfl
  have k7:qL R l < (ordL R).length:=idxOf_lt_of_mem hl
  rw [k6] at k2
  have k5:=rv_sgn (q:=q) hsg (q':=qL R) (l,b)
  have k8:=rv_ne hsg (q:=q) (x:=(l,b))
  have k9:big ((qL R l:Int)+1)=false:=by simp [big];exact v82 hm hle k7
  have k10:mkL [PV.int 1,PV.int (-1)]=.ok (.list [PV.int 1,PV.int (-1)]):=rfl
  have k11:big 1=false:=by decide
  have k12:big (-1)=false:=by decide
  by_cases hp:rv q sg (l,b) < 0
  ·rw [if_neg (by exact o189 hp)] at k5
   rw [if_pos hp] at k1
   rw [k5]
   simp [vE1,vE2,vE4,vE6,vE7,vE9,vE14,vE20,vE21,ixL,evsN,evsC,evAndN,slot,bindK,bopA,bopM,mulVI,addVI,int2K,copLt,int2K,prAbs,prInt,p1K,absK,intB,getIdxL,clr1,hp,k1,k2,k9,k10,k12]
  ·rw [if_pos (Int.lt_iff_le_and_ne.2 ⟨Int.not_lt.1 hp,(rv_ne hsg).symm⟩)] at k5
   rw [if_neg hp] at k1
   rw [k5]
   have hp':¬ ((q l:Int)+1 < 0):=by exact o136
   simp [vE1,vE2,vE4,vE6,vE7,vE9,vE14,vE20,vE21,ixL,evsN,evsC,evAndN,slot,bindK,bopA,bopM,mulVI,addVI,int2K,copLt,int2K,prAbs,prInt,p1K,absK,intB,getIdxL,clr1,hp',k1,k2,k9,k10,k11]
 refine (exs_n (ρ':=[some P,some T,some (.list (oI q (ordL R))),u1,some (.list (R.map fun x=>PV.int (rv (qL R) sg x))),none,none,none,none,none,none]) (by
  simp only [xE1,cm0,bindK];rfl)).trans ?_
 have cm:ev cf [some P,some T,some (.list (oI q (ordL R))),u1,some (.list (R.map fun x=>.int (rv (qL R) sg x))),none,none,none,none,none,none] (.comp (.idx (.var 1) (.var 5)) (.one 5) .seq [(.var 2)] [])=.ok (.list ((ordL R).map fun l=>PV.int (sg l))):=by
  refine ev_comp (xs:=[.list (oI q (ordL R))]) (ds:=(ordL R).map fun l=>PV.int ((q l:Int)+1)) (by rfl) rfl ?_ (by rw [List.length_map,lim];exact o181 hm hle)
  refine comp_map2 ?_
  intro l hl
  have:=hT l hl
  simp only [clr1,evAndN,vE14,vE1,slot]
  simp [bindK,this]
 refine exs_r ?_
 simp only [xE11,vE3,vE20,vE1,evsN,evsC,cm,bindK,prTup,p1K,tupL]
 simp [slot,mkT,lim,tI,dps,dts,bindK,p1K,tupL]
end
section
variable {s:Nat} {w:List Nat} {R:List (Nat×Bool)} {sg:Nat->Int}
noncomputable def rot {α:Type} (k:Nat) (R:List α):List α:=R.drop k++R.take k
theorem rot_map {α β:Type} (f:α->β) (k:Nat) (R:List α):rot k (R.map f)=(rot k R).map f:=by simp [rot,List.map_drop,List.map_take]
theorem clip_le {n k:Nat} (h:k<=n):clip n (k:Int)=k:=by unfold clip;rw [if_neg (by exact o183)];simp;exact o184 h
theorem cut_lo {l:List PV} {k:Nat} (h:k<=l.length):cut l (clip l.length k) l.length=l.drop k:=by rw [clip_le h];simp [cut]
theorem cut_hi {l:List PV} {k:Nat} (h:k<=l.length):cut l 0 (clip l.length k)=l.take k:=by rw [clip_le h];simp [cut]
end
end Mine.Internal
end
section
namespace Mine.Internal
open PySem
theorem fmod_range (a:Int) {m:Int} (h:0 < m):0<=Int.fmod a m/\Int.fmod a m < m:=by
 rw [Int.fmod_eq_emod_of_nonneg a (by exact o192 h)]
 exact ⟨Int.emod_nonneg a (by exact o193 h),Int.emod_lt_of_pos a h⟩
noncomputable def stB:List PS:=[(.assign 3 (.bin .mod (.bin .add (.bin .add (.bin .mul (.var 3) (.var 3)) (.bin .mul (.const (.int 48271)) (.var 3))) (.var 4)) (.const (.int 2147483647)))),(.append 2 (.var 3))]
noncomputable def InR (x:Int):Prop:=0<=x/\x < 2147483647
theorem st_go {cf:Nat->List PV->Res PV} {A B:PV}:∀ {ks:List Int} {acc:List Int} {num:Int} {u:Option PV},0<=num->num < 2147531918->acc.length+ks.length < 1000 ->
  ∃ ys num' u',ys.length=ks.length/\(∀ y∈ys,InR y)/\forGo (fun ρ'=>exs cf ρ' stB) (.one 4) (ks.map PV.int) [some A,some B,some (.list (acc.map .int)),some (.int num),u,none,none,none,none,none,none]=.ok (.next [some A,some B,some (.list ((acc++ys).map .int)),some (.int num'),u',none,none,none,none,none,none])
 | [],acc,num,u,_,_,_=>⟨[],num,u,rfl,by simp,by simp [forN]⟩
 | k::ks,acc,num,u,h0,h1,hl=>by
  have hr:=fmod_range (num*num+48271*num+k) (m:=2147483647) (by decide)
  obtain ⟨ys,num',u',e1,e2,e3⟩:=st_go (cf:=cf) (A:=A) (B:=B) (ks:=ks) (acc:=acc++[Int.fmod (num*num+48271*num+k) 2147483647]) (num:=Int.fmod (num*num+48271*num+k) 2147483647) (u:=some (.int k)) hr.1 (by exact o198 hr.2) (by simp at hl ⊢;exact o156 hl)
  refine ⟨Int.fmod (num*num+48271*num+k) 2147483647::ys,num',u',by simp [e1],?_,?_⟩
  ·intro y hy;rcases List.mem_cons.1 hy with rfl | h
   ·exact hr
   ·exact e2 y h
  ·rw [List.append_assoc] at e3
   refine Eq.trans ?_ e3
   rw [List.map_cons]
   refine forGo_n (ρ1:=[some A,some B,some (.list (acc.map .int)),some (.int num),some (.int k),none,none,none,none,none,none]) (by simp [tgt1]) ?_
   have b1:big num=false:=by simp [big];exact v85 h0 h1
   have b2:big 48271=false:=by decide
   have l1:acc.length < 16777216:=by simp at hl;exact o158 hl
   simp [stB,exsN,exsC,xE1,xE5,vE1,vE2,vE6,slot,bindK,bopA,bopM,mulVI,bopR,addVI,int2K,int2K,lim,b1,b2,l1]
theorem upto0 (n:Nat):upto 0 (n:Int)=(List.range n).map fun (k:Nat)=>PV.int (k:Int):=by
 simp [upto]
theorem items_r1 {n:Nat} (h:n<=1000):items .range1 [.int (n:Int)]=.ok ((List.range n).map fun (k:Nat)=>PV.int (k:Int)):=by
 have h1:(0:Int)<=n:=by exact o190
 have h2:(n:Int)<=(lim:Nat):=by rw [lim];exact o195 h
 rw [items_range,decide_eq_true h1,decide_eq_true h2,if_pos (show (true&&true)=true from rfl),upto0]
theorem stream {n:Nat} (c:Int) {many:Nat} (hm:many<=20):∃ xs:List Int,xs.length=many/\(∀ x∈xs,InR x)/\callN f7_all (n+1) 15 [.int c,.int many]=.ok (.list (xs.map .int)):=by
 have hr:=fmod_range c (m:=2147483647) (by decide)
 rw [c2 (by rfl)]
 generalize callN f7_all n=cf
 obtain ⟨ys,num',u',e1,e2,e3⟩:=st_go (cf:=cf) (A:=.int c) (B:=.int many) (ks:=(List.range (many+1)).map fun (k:Nat)=>(k:Int)) (acc:=[]) (num:=Int.fmod c 2147483647+48271) (u:=none) (by exact o196 hr.1) (by exact o197 hr.2) (by simp;exact o199 hm)
 refine ⟨ys.drop 1,by simp [e1],fun x hx=>e2 x (List.mem_of_mem_drop hx),?_⟩
 refine run2 (o:=.ret _) (ρ:=[some (.int c),some (.int many),none,none,none,none,none,none,none,none,none]) rfl rfl ?_
 refine (exs_n (ρ':=[some (.int c),some (.int many),some (.list (([]:List Int).map .int)),none,none,none,none,none,none,none,none]) (by rfl)).trans ?_
 refine (exs_n (ρ':=[some (.int c),some (.int many),some (.list (([]:List Int).map .int)),some (.int (Int.fmod c 2147483647+48271)),none,none,none,none,none,none,none]) (by rfl)).trans ?_
 have e4:(List.map PV.int (List.map (fun (k:Nat)=>(k:Int)) (List.range (many+1))))=(List.range (many+1)).map fun (k:Nat)=>PV.int (k:Int):=by rw [List.map_map];rfl
 rw [e4] at e3
 refine (exs_n (ex_for (xs:=[.int ((many+1:Nat):Int)]) (by rfl) (items_r1 (by exact o202 hm)) e3)).trans ?_
 refine exs_r ?_
 have hl:(ys.map PV.int).length=many+1:=by simp [e1]
 have hc:=cut_lo (l:=ys.map PV.int) (k:=1) (by exact o207 hl)
 simp only [Int.natCast_one] at hc
 simp only [xE11,vE16,vE1,vE2,slot]
 simp [bindK,sliceLL]
 simp at hc
 exact hc
noncomputable def aI (a:List Nat):List PV:=a.map fun (x:Nat)=>PV.int (x:Int)
noncomputable def wI (wd:List (Nat×Int)):List PV:=wd.map fun p=>PV.tuple [.int (p.1:Int),.int p.2]
theorem aI_get {a:List Nat} {k:Nat} (h:k < a.length):(aI a)[k]?=some (.int ((a.getD k 0:Nat):Int)):=by
 simp [aI,List.getD,h]
theorem aI_len {a:List Nat}:(aI a).length=a.length:=by simp [aI]
noncomputable def cyB:List PS:=[(.assign 2 (.bin .add (.bin .add (.slH (.var 2) (.var 3)) (.lst [(.idx (.var 2) (.bin .add (.var 3) (.const (.int 1)))),(.idx (.var 2) (.var 3))])) (.slL (.var 2) (.bin .add (.var 3) (.const (.int 2))))))]
theorem cy_step {cf:Nat->List PV->Res PV} {A B u v:Option PV} {a:List Nat} {i:Nat} (h:i+1 < a.length) (hl:a.length<=10):
  exs cf [A,B,some (.list (aI a)),some (.int i),u,v,none,none,none,none,none,none,none,none] cyB=.ok (.next [A,B,some (.list (aI (sw i a))),some (.int i),u,v,none,none,none,none,none,none,none,none]):=by
 have g1:=aI_get (a:=a) (k:=i) (by exact o85 h)
 have g2:=aI_get (a:=a) (k:=i+1) h
 have c1:=cut_hi (l:=aI a) (k:=i) (by rw [aI_len];exact o200 h)
 have c2:=cut_lo (l:=aI a) (k:=i+2) (by rw [aI_len];exact o201 h)
 have t1:((i:Int)+1).toNat=i+1:=by exact v51
 have t2:(0:Int)<=(i:Int)+1:=by exact o187
 have m1:mkL [PV.int ((a.getD (i+1) 0:Nat):Int),PV.int ((a.getD i 0:Nat):Int)]=.ok (.list [PV.int ((a.getD (i+1) 0:Nat):Int),PV.int ((a.getD i 0:Nat):Int)]):=rfl
 have m2:mkL ((aI a).take i++[PV.int ((a.getD (i+1) 0:Nat):Int),PV.int ((a.getD i 0:Nat):Int)])=.ok (.list ((aI a).take i++[PV.int ((a.getD (i+1) 0:Nat):Int),PV.int ((a.getD i 0:Nat):Int)])):=by
  have:((aI a).take i++[PV.int ((a.getD (i+1) 0:Nat):Int),PV.int ((a.getD i 0:Nat):Int)]).length<=lim:=by
   rw [List.length_append,List.length_take,aI_len,lim];simp;exact o209 hl
  unfold mkL;rw [if_pos this]
 have e:aI (sw i a)=(aI a).take i++[PV.int ((a.getD (i+1) 0:Nat):Int),PV.int ((a.getD i 0:Nat):Int)]++(aI a).drop (i+2):=by
  simp [aI,sw,List.map_take,List.map_drop]
 have m3:mkL ((aI a).take i++[PV.int ((a.getD (i+1) 0:Nat):Int),PV.int ((a.getD i 0:Nat):Int)]++(aI a).drop (i+2))=.ok (.list (aI (sw i a))):=by
  have:(aI (sw i a)).length<=lim:=by rw [aI_len,sw_len h,lim];exact o164 hl
  rw [<-e];unfold mkL;rw [if_pos this]
 generalize a.getD (i+1) 0=y at *
 generalize a.getD i 0=z at *
 have e2:((i:Int)+2)=((i+2:Nat):Int):=by exact o210
 simp only [cyB,exsN,exsC,xE1,vE1,vE2,vE4,vE6,vE14,vE16,vE17,evsN,evsC,slot]
 simp only [List.getElem?_cons_succ,List.getElem?_cons_zero,bindK,sliceLL,sliceHL,c1,bopA,addVI,addVL,getIdxL,t1,t2,if_true,g1,g2,m1,m2,e2,c2,m3,Int.toNat_natCast,Int.natCast_nonneg]
 rfl
theorem cy_go {cf:Nat->List PV->Res PV} {s:Nat} (hs:s<=10) {A B:Option PV}:∀ {wd:List (Nat×Int)} {a:List Nat} {u v:Option PV},a.length=s->(∀ p∈wd,p.1+1 < s) ->
  ∃ u' v',forGo (fun ρ'=>exs cf ρ' cyB) (.many [3,4]) (wI wd) [A,B,some (.list (aI a)),u,v,none,none,none,none,none,none,none,none,none]=.ok (.next [A,B,some (.list (aI (swAll a (wd.map (·.1))))),u',v',none,none,none,none,none,none,none,none,none])
 | [],a,u,v,_,_=>⟨u,v,by simp [forN,wI,swAll]⟩
 | (i,t)::wd,a,u,v,ha,h=>by
  have hi:=h (i,t) (by simp)
  simp at hi
  obtain ⟨u',v',e⟩:=cy_go (cf:=cf) hs (A:=A) (B:=B) (wd:=wd) (a:=sw i a) (u:=some (.int i)) (v:=some (.int t)) (by rw [sw_len (by exact o115 ha hi)];exact ha) (fun p hp=>h p (by simp [hp]))
  refine ⟨u',v',?_⟩
  refine Eq.trans ?_ e
  show forGo _ _ (PV.tuple [.int (i:Int),.int t]::wI wd) _=_
  exact forGo_n (ρ1:=[A,B,some (.list (aI a)),some (.int i),some (.int t),none,none,none,none,none,none,none,none,none]) (by simp [tgtM]) (cy_step (by exact o115 ha hi) (by exact o206 hs ha))
noncomputable def hdS (a hd:List Nat) (pl:Nat):List Nat:=hd.map fun h=>if h=hd.getD (a.getD pl 0) 0 then hd.getD pl 0 else h
noncomputable def chB:List PS:=[(.assign 7 (.idx (.var 5) (.idx (.var 2) (.var 6)))),(.assign 5 (.comp (.ite (.cmp .eq (.var 8) (.var 7)) (.idx (.var 5) (.var 6)) (.var 8)) (.one 8) .seq [(.var 5)] []))]
theorem ch_step {cf:Nat->List PV->Res PV} {A B u v x7:Option PV} {a hd:List Nat} {pl:Nat} (h1:pl < hd.length) (h2:pl < a.length) (h3:a.getD pl 0 < hd.length) (hl:hd.length<=10):
  ∃ x7',exs cf [A,B,some (.list (aI a)),u,v,some (.list (aI hd)),some (.int pl),x7,none,none,none,none,none,none] chB=.ok (.next [A,B,some (.list (aI a)),u,v,some (.list (aI (hdS a hd pl))),some (.int pl),x7',none,none,none,none,none,none]):=by
 have g1:=aI_get h1
 have g2:=aI_get h2
 have g3:=aI_get h3
 generalize hy:a.getD pl 0=y at *
 generalize hz:hd.getD y 0=z at *
 generalize hx:hd.getD pl 0=x at *
 refine ⟨some (.int z),?_⟩
 unfold chB
 refine (exs_n (ρ':=[A,B,some (.list (aI a)),u,v,some (.list (aI hd)),some (.int pl),some (.int z),none,none,none,none,none,none]) (by
  simp only [xE1,vE14,vE1,slot]
  simp [bindK,getIdxL,g2,g3])).trans ?_
 have cm:ev cf [A,B,some (.list (aI a)),u,v,some (.list (aI hd)),some (.int pl),some (.int z),none,none,none,none,none,none] (.comp (.ite (.cmp .eq (.var 8) (.var 7)) (.idx (.var 5) (.var 6)) (.var 8)) (.one 8) .seq [(.var 5)] [])=.ok (.list (aI (hdS a hd pl))):=by
  refine ev_comp (xs:=[.list (aI hd)]) (ds:=hd.map fun (x:Nat)=>PV.int (x:Int)) (by rfl) rfl ?_ (by rw [aI_len,hdS,List.length_map,lim];exact o164 hl)
  have e:aI (hdS a hd pl)=hd.map fun h=>PV.int ((if h=z then x else h:Nat):Int):=by
   rw [aI,hdS,hy,hz,hx,List.map_map];rfl
  rw [e]
  refine comp_map2 ?_
  intro h hh
  by_cases he:h=z
  ·subst he;simp [vE1,vE9,vE13,vE14,evAndN,slot,bindK,copE,getIdxL,eqII,flatI,depI,clr1,g1]
  ·have he':¬ ((h:Int)=(z:Int)):=by exact o211 he
   simp [vE1,vE9,vE13,vE14,evAndN,slot,bindK,copE,getIdxL,eqII,flatI,depI,clr1,g1,he,he']
 refine (exs_n ?_).trans exs_0
 simp only [xE1,cm,bindK];rfl
theorem hdS_len {a hd:List Nat} {pl:Nat}:(hdS a hd pl).length=hd.length:=by simp [hdS]
theorem ch_go {cf:Nat->List PV->Res PV} {s:Nat} (hs:s<=10) {A B u v:Option PV} {a:List Nat} (ha:a.length=s) (hA:∀ k,k < s->a.getD k 0 < s):∀ {pls:List Nat} {hd:List Nat} {x6 x7:Option PV},hd.length=s->(∀ p∈pls,p < s) ->
  ∃ x6' x7',forGo (fun ρ'=>exs cf ρ' chB) (.one 6) (pls.map fun (k:Nat)=>PV.int (k:Int)) [A,B,some (.list (aI a)),u,v,some (.list (aI hd)),x6,x7,none,none,none,none,none,none]=.ok (.next [A,B,some (.list (aI a)),u,v,some (.list (aI (pls.foldl (hdS a) hd))),x6',x7',none,none,none,none,none,none])
 | [],hd,x6,x7,_,_=>⟨x6,x7,by simp [forN]⟩
 | p::pls,hd,x6,x7,hh,hp=>by
  have hps:=hp p (by simp)
  obtain ⟨y7,e0⟩:=ch_step (cf:=cf) (A:=A) (B:=B) (u:=u) (v:=v) (x7:=x7) (a:=a) (hd:=hd) (pl:=p) (by exact o203 hh hps) (by exact o203 ha hps) (by have:=hA p hps;exact o203 hh this) (by exact o206 hs hh)
  obtain ⟨x6',x7',e⟩:=ch_go (cf:=cf) hs (A:=A) (B:=B) (u:=u) (v:=v) ha hA (pls:=pls) (hd:=hdS a hd p) (x6:=some (.int p)) (x7:=y7) (by rw [hdS_len];exact hh) (fun k hk=>hp k (by simp [hk]))
  refine ⟨x6',x7',?_⟩
  refine Eq.trans ?_ e
  rw [List.map_cons]
  exact forGo_n (ρ1:=[A,B,some (.list (aI a)),u,v,some (.list (aI hd)),some (.int p),x7,none,none,none,none,none,none]) (by simp [tgt1]) e0
theorem perms_ok:∀ s,s < 5->∀ a∈perms s,a.length=s/\∀ k,k < s->a.getD k 0 < s:=by decide +kernel
theorem listRange {cf:Nat->List PV->Res PV} {ρ:Slots} {s:Nat} (hs:s < 5) (h:slot ρ 0=.ok (.int s)):ev cf ρ (.prim .listRange [(.var 0)])=.ok (.list (aI (List.range s))):=by
 have hl:(aI (List.range s)).length<=lim:=by rw [aI_len,List.length_range,lim];exact o204 hs
 have h2:=items_r1 (n:=s) (by exact o205 hs)
 simp only [vE20,vE1,evsN,evsC,h,bindK,prRng,h2]
 exact if_pos hl
theorem cycles {n s:Nat} (h0:0 < s) (hs:s < 5) {wd:List (Nat×Int)} (hw:∀ p∈wd,p.1+1 < s):callN f7_all (n+1) 18 [.int s,.list (wI wd)]=.ok (.list (aI (heds s (swAll (List.range s) (wd.map (·.1)))))):=by
 have hp:=perms_ok s hs _ (perms_all hs (w:=wd.map (·.1)) (by simpa using hw) (range_perms s h0 hs))
 rw [c2 (by rfl)]
 generalize callN f7_all n=cf
 obtain ⟨u,v,e1⟩:=cy_go (cf:=cf) (s:=s) (by exact o208 hs) (A:=some (.int s)) (B:=some (.list (wI wd))) (wd:=wd) (a:=List.range s) (u:=none) (v:=none) (by simp) hw
 obtain ⟨x6,x7,e2⟩:=ch_go (cf:=cf) (s:=s) (by exact o208 hs) (A:=some (.int s)) (B:=some (.list (wI wd))) (u:=u) (v:=v) hp.1 hp.2 (pls:=List.range s) (hd:=List.range s) (x6:=none) (x7:=none) (by simp) (by simp)
 refine run2 (o:=.ret _) (ρ:=[some (.int s),some (.list (wI wd)),none,none,none,none,none,none,none,none,none,none,none,none]) rfl rfl ?_
 refine (exs_n (ρ':=[some (.int s),some (.list (wI wd)),some (.list (aI (List.range s))),none,none,none,none,none,none,none,none,none,none,none]) (by
  rw [xE1,listRange hs rfl];rfl)).trans ?_
 refine (exs_n (ex_for (xs:=[.list (wI wd)]) (by rfl) rfl e1)).trans ?_
 refine (exs_n (ρ':=[some (.int s),some (.list (wI wd)),some (.list (aI (swAll (List.range s) (wd.map (·.1))))),u,v,some (.list (aI (List.range s))),none,none,none,none,none,none,none,none]) (by
  rw [xE1,listRange hs rfl];rfl)).trans ?_
 refine (exs_n (ex_for (xs:=[.int s]) (by rfl) (items_r1 (by exact o205 hs)) e2)).trans ?_
 exact exs_r (by simp only [xE11,vE1];rfl)
end Mine.Internal
end
section
namespace Mine.Internal
open PySem
noncomputable def pm (v:Int):Int:=if Int.fmod v 2=0 then 1 else -1
theorem pm_ok (v:Int):pm v=1\/pm v=-1:=by unfold pm;split<;>simp
theorem ev_pm {cf:Nat->List PV->Res PV} {ρ:Slots} {e:PE} {v:Int} (h:ev cf ρ e=.ok (.int v)):ev cf ρ (.idx (.lst [(.const (.int 1)),(.neg (.const (.int 1)))]) (.bin .mod e (.const (.int 2))))=.ok (.int (pm v)):=by
 have hr:=fmod_range v (m:=2) (by decide)
 have k10:mkL [PV.int 1,PV.int (-1)]=.ok (.list [PV.int 1,PV.int (-1)]):=rfl
 unfold pm
 by_cases h0:Int.fmod v 2=0
 ·simp [vE2,vE4,vE6,vE7,vE14,evsN,evsC,bindK,bopR,int2K,int2K,getIdxL,h,k10,h0]
 ·have h1:Int.fmod v 2=1:=by exact o214 hr.1 hr.2 h0
  simp [vE2,vE4,vE6,vE7,vE14,evsN,evsC,bindK,bopR,int2K,int2K,getIdxL,h,k10,h1]
theorem xs_get {xs:List Int} {k:Nat} (h:k < xs.length):(xs.map PV.int)[k]?=some (.int (xs.getD k 0)):=by simp [List.getD,h]
noncomputable def WOk (s:Nat) (wd:List (Nat×Int)):Prop:=∀ p∈wd,p.1+1 < s/\(p.2=1\/p.2=-1)
theorem wI_app (wd:List (Nat×Int)) (p:Nat×Int):wI (wd++[p])=wI wd++[PV.tuple [.int (p.1:Int),.int p.2]]:=by simp [wI]
theorem wI_len (wd:List (Nat×Int)):(wI wd).length=wd.length:=by simp [wI]
noncomputable def brB:List PS:=[(.append 4 (.tup [(.bin .mod (.idx (.var 2) (.bin .add (.const (.int 2)) (.var 5))) (.prim .max2 [(.const (.int 1)),(.bin .sub (.var 3) (.const (.int 1)))])),(.idx (.lst [(.const (.int 1)),(.neg (.const (.int 1)))]) (.bin .mod (.bin .fdiv (.idx (.var 2) (.bin .add (.const (.int 2)) (.var 5))) (.const (.int 7))) (.const (.int 2))))]))]
theorem br_step {cf:Nat->List PV->Res PV} {A B u:Option PV} {xs:List Int} {s k:Nat} (hs:2<=s) (hk:k+2 < xs.length) {wd:List (Nat×Int)} (hw:WOk s wd) (hl:wd.length < 100):
  ∃ p,WOk s (wd++[p])/\exs cf [A,B,some (.list (xs.map .int)),some (.int s),some (.list (wI wd)),some (.int k),u,none,none,none,none,none,none] brB=.ok (.next [A,B,some (.list (xs.map .int)),some (.int s),some (.list (wI (wd++[p]))),some (.int k),u,none,none,none,none,none,none]):=by
 have g:=xs_get (xs:=xs) (k:=k+2) hk
 generalize xs.getD (k+2) 0=v at g
 have hr:=fmod_range v (m:=(s:Int)-1) (by exact o213 hs)
 have t1:((2:Int)+k).toNat=k+2:=by exact v50
 have t2:(0:Int)<=2+k:=by exact o217
 have a1:ev cf [A,B,some (.list (xs.map .int)),some (.int s),some (.list (wI wd)),some (.int k),u,none,none,none,none,none,none] (.idx (.var 2) (.bin .add (.const (.int 2)) (.var 5)))=.ok (.int v):=by
  simp only [vE14,vE1,vE2,vE6,slot]
  simp only [List.getElem?_cons_succ,List.getElem?_cons_zero,bindK,bopA,addVI,getIdxL,t1,t2,if_true,g]
 have a2:ev cf [A,B,some (.list (xs.map .int)),some (.int s),some (.list (wI wd)),some (.int k),u,none,none,none,none,none,none] (.bin .mod (.idx (.var 2) (.bin .add (.const (.int 2)) (.var 5))) (.prim .max2 [(.const (.int 1)),(.bin .sub (.var 3) (.const (.int 1)))]))=.ok (.int (Int.fmod v ((s:Int)-1))):=by
  rw [vE6,a1]
  have h1:(if (1:Int) < (s:Int)-1 then (s:Int)-1 else 1)=(s:Int)-1:=by split<;>(first | exact o218 | exact o219 hs (by assumption))
  have h2:¬ ((s:Int)-1=0):=by exact o220 hs
  simp only [vE20,vE1,vE2,vE6,evsN,evsC,slot,List.getElem?_cons_succ,List.getElem?_cons_zero,bindK,bopS,bopR,int2K,prMax,p2K,h1,h2,if_false]
 have a3:ev cf [A,B,some (.list (xs.map .int)),some (.int s),some (.list (wI wd)),some (.int k),u,none,none,none,none,none,none] (.bin .fdiv (.idx (.var 2) (.bin .add (.const (.int 2)) (.var 5))) (.const (.int 7)))=.ok (.int (Int.fdiv v 7)):=by
  rw [vE6,a1]
  simp [bindK,vE2,bopF,int2K]
 have a4:=ev_pm a3
 have e:((Int.fmod v ((s:Int)-1)).toNat:Int)=Int.fmod v ((s:Int)-1):=by exact v53 hr.1
 refine ⟨((Int.fmod v ((s:Int)-1)).toNat,pm (Int.fdiv v 7)),?_,?_⟩
 ·intro p hp
  rcases List.mem_append.1 hp with h | h
  ·exact hw p h
  ·simp at h;subst h;exact ⟨by simp;exact v54 hs hr.2,pm_ok _⟩
 ·rw [wI_app];simp only
  rw [e]
  have hl2:(wI wd).length < lim:=by rw [wI_len,lim];exact o221 hl
  have m2:∀ a b:PV,mkT [a,b]=.ok (.tuple [a,b]):=fun a b=>rfl
  simp only [brB,exsN,exsC,xE5,vE3,evsN,evsC,a2,a4,bindK,slot,List.getElem?_cons_succ,List.getElem?_cons_zero,m2,hl2,decide_true,if_true]
  rfl
theorem br_go {cf:Nat->List PV->Res PV} {A B u:Option PV} {xs:List Int} {s:Nat} (hs:2<=s):∀ {ks:List Nat} {wd:List (Nat×Int)} {x5:Option PV},(∀ k∈ks,k+2 < xs.length)->WOk s wd->wd.length+ks.length < 100 ->
  ∃ wd' x5',WOk s wd'/\wd'.length=wd.length+ks.length/\forGo (fun ρ'=>exs cf ρ' brB) (.one 5) (ks.map fun (k:Nat)=>PV.int (k:Int)) [A,B,some (.list (xs.map .int)),some (.int s),some (.list (wI wd)),x5,u,none,none,none,none,none,none]=.ok (.next [A,B,some (.list (xs.map .int)),some (.int s),some (.list (wI wd')),x5',u,none,none,none,none,none,none])
 | [],wd,x5,_,hw,_=>⟨wd,x5,hw,rfl,rfl⟩
 | k::ks,wd,x5,hk,hw,hl=>by
  simp at hl
  obtain ⟨p,hp,e0⟩:=br_step (cf:=cf) (A:=A) (B:=B) (u:=u) hs (hk k (by simp)) hw (by exact o215 hl)
  obtain ⟨wd',x5',h1,h2,e⟩:=br_go (cf:=cf) (A:=A) (B:=B) (u:=u) (xs:=xs) hs (ks:=ks) (wd:=wd++[p]) (x5:=some (.int k)) (fun k' hk'=>hk k' (by simp [hk'])) hp (by simp;exact o216 hl)
  refine ⟨wd',x5',h1,by simp at h2 ⊢;exact o109 h2,?_⟩
  refine Eq.trans ?_ e
  rw [List.map_cons]
  exact forGo_n (ρ1:=[A,B,some (.list (xs.map .int)),some (.int s),some (.list (wI wd)),some (.int k),u,none,none,none,none,none,none]) rfl e0
noncomputable def bcB:List PS:=[(.assign 6 (.call 18 true [(.var 3),(.var 4)])),(.ite (.cmp .ne (.idx (.var 6) (.var 5)) (.idx (.var 6) (.bin .add (.var 5) (.const (.int 1))))) [(.append 4 (.tup [(.var 5),(.idx (.lst [(.const (.int 1)),(.neg (.const (.int 1)))]) (.bin .mod (.bin .fdiv (.bin .fdiv (.idx (.var 2) (.const (.int 1))) (.const (.int 16))) (.bin .add (.var 5) (.const (.int 1)))) (.const (.int 2))))]))] [])]
theorem imms_aI:∀ (a:List Nat),PV.imms (aI a)=true
 | []=>rfl
 | _::a=>by simpa [aI,immsN,immsC,immI,immT] using imms_aI a
theorem heds_len (s:Nat) (a:List Nat):(heds s a).length=s:=by
 have:∀ (pls hd:List Nat),(pls.foldl (hdS a) hd).length=hd.length:=by
  intro pls;induction pls with
  | nil=>intro hd;rfl
  | cons p pls ih=>intro hd;rw [List.foldl_cons,ih,hdS_len]
 have h:=this (List.range s) (List.range s)
 rw [List.length_range] at h;exact h
theorem bc_step {cf:Nat->List PV->Res PV} {A B u:Option PV} {xs:List Int} {s k:Nat} {hd:List Nat} (hx:1 < xs.length) (hk:k+1 < hd.length) (hl:hd.length<=10) {wd:List (Nat×Int)} (hwl:wd.length < 100)
  (h14:cf 18 [.int s,.list (wI wd)]=.ok (.list (aI hd))):
  ∃ t u',(t=1\/t=-1)/\exs cf [A,B,some (.list (xs.map .int)),some (.int s),some (.list (wI wd)),some (.int k),u,none,none,none,none,none,none] bcB=.ok (.next [A,B,some (.list (xs.map .int)),some (.int s),some (.list (wI (if hd.getD k 0≠hd.getD (k+1) 0 then wd++[(k,t)] else wd))),some (.int k),u',none,none,none,none,none,none]):=by
 have g1:=aI_get (a:=hd) (k:=k) (by exact o85 hk)
 have g2:=aI_get (a:=hd) (k:=k+1) hk
 have g3:=xs_get (xs:=xs) (k:=1) hx
 generalize hd.getD k 0=y at g1 ⊢
 generalize hd.getD (k+1) 0=z at g2 ⊢
 generalize xs.getD 1 0=v at g3
 have t1:((k:Int)+1).toNat=k+1:=by exact v51
 have t2:(0:Int)<=(k:Int)+1:=by exact o187
 have cl:(PV.list (aI hd)).clean=true:=imms_aI hd
 refine ⟨pm (Int.fdiv (Int.fdiv v 16) ((k:Int)+1)),some (.list (aI hd)),pm_ok _,?_⟩
 refine (exs_n (ρ':=[A,B,some (.list (xs.map .int)),some (.int s),some (.list (wI wd)),some (.int k),some (.list (aI hd)),none,none,none,none,none,none]) (by
  simp only [xE1,vE19,vE1,evsN,evsC,slot,List.getElem?_cons_succ,List.getElem?_cons_zero,bindK,h14,cl,Bool.or_true,if_true];rfl)).trans ?_
 refine (exs_n ?_).trans exs_0
 have a1:ev cf [A,B,some (.list (xs.map .int)),some (.int s),some (.list (wI wd)),some (.int k),some (.list (aI hd)),none,none,none,none,none,none] (.cmp .ne (.idx (.var 6) (.var 5)) (.idx (.var 6) (.bin .add (.var 5) (.const (.int 1)))))=.ok (.bool (decide (y≠z))):=by
  simp only [vE9,vE14,vE6,vE1,vE2,slot,List.getElem?_cons_succ,List.getElem?_cons_zero,bindK,getIdxL,Int.natCast_nonneg,if_true,Int.toNat_natCast,g1,bopA,addVI,t1,t2,g2,copN,flatI,depI,eqII]
  by_cases h:y=z
  ·subst h;simp [bindK]
  ·have h':¬ ((y:Int)=z):=by exact o211 h
   simp [h,h',bindK]
 have a2:ev cf [A,B,some (.list (xs.map .int)),some (.int s),some (.list (wI wd)),some (.int k),some (.list (aI hd)),none,none,none,none,none,none] (.bin .fdiv (.bin .fdiv (.idx (.var 2) (.const (.int 1))) (.const (.int 16))) (.bin .add (.var 5) (.const (.int 1))))=.ok (.int (Int.fdiv (Int.fdiv v 16) ((k:Int)+1))):=by
  have h1:¬ ((k:Int)+1=0):=by exact o133
  have h2:¬ (1073741824<=((k:Int)+1).natAbs):=by exact v52 hk hl
  have h3:(xs.map PV.int)[(1:Int).toNat]?=some (.int v):=g3
  have h4:((16:Int)=0)=False:=by simp
  have h5:(1073741824<=(16:Int).natAbs)=False:=by simp
  have h6:((0:Int)<=1)=True:=by simp
  simp only [vE14,vE6,vE1,vE2,slot,List.getElem?_cons_succ,List.getElem?_cons_zero,bindK,getIdxL,h6,if_true,h3,bopA,bopF,addVI,int2K,h1,h2,h4,h5,decide_false,Bool.or_false,Bool.false_eq_true,if_false]
 have a3:=ev_pm a2
 rw [xE8,a1]
 by_cases h:y=z
 ·subst h;simp [bindK,exsN,exsC]
 ·have hl2:(wI wd).length < lim:=by rw [wI_len,lim];exact o221 hwl
  have m2:∀ a b:PV,mkT [a,b]=.ok (.tuple [a,b]):=fun a b=>rfl
  simp only [bindK,ne_eq,h,not_false_eq_true,decide_true,if_true,exsN,exsC,xE5,vE3,vE1,evsN,evsC,a3,slot,List.getElem?_cons_succ,List.getElem?_cons_zero,m2,hl2,wI_app]
  rfl
theorem bc_go {cf:Nat->List PV->Res PV} {A B:Option PV} {xs:List Int} {s:Nat} (hs:2<=s) (h5:s < 5) (hx:1 < xs.length) (h14:∀ {wd:List (Nat×Int)},(∀ p∈wd,p.1+1 < s)->cf 18 [.int s,.list (wI wd)]=.ok (.list (aI (heds s (swAll (List.range s) (wd.map (·.1))))))):
  ∀ {ks:List Nat} {wd:List (Nat×Int)} {x5 u:Option PV},(∀ k∈ks,k+1 < s)->WOk s wd->wd.length+ks.length < 100 ->
  ∃ wd' x5' u',WOk s wd'/\wd'.map (·.1)=wd.map (·.1)++clo s ks (swAll (List.range s) (wd.map (·.1)))/\wd'.length<=wd.length+ks.length/\forGo (fun ρ'=>exs cf ρ' bcB) (.one 5) (ks.map fun (k:Nat)=>PV.int (k:Int)) [A,B,some (.list (xs.map .int)),some (.int s),some (.list (wI wd)),x5,u,none,none,none,none,none,none]=.ok (.next [A,B,some (.list (xs.map .int)),some (.int s),some (.list (wI wd')),x5',u',none,none,none,none,none,none])
 | [],wd,x5,u,_,hw,_=>⟨wd,x5,u,hw,by simp [cloN],by simp,rfl⟩
 | k::ks,wd,x5,u,hk,hw,hl=>by
  simp at hl
  have hk0:=hk k (by simp)
  have hln:=heds_len s (swAll (List.range s) (wd.map (·.1)))
  obtain ⟨t,u1,ht,e0⟩:=bc_step (cf:=cf) (A:=A) (B:=B) (u:=u) (s:=s) (k:=k) (hd:=heds s (swAll (List.range s) (wd.map (·.1)))) hx (by exact o222 hk0 hln) (by exact o223 h5 hln) (wd:=wd) (by exact o215 hl) (h14 fun p hp=>(hw p hp).1)
  by_cases hc:(heds s (swAll (List.range s) (wd.map (·.1)))).getD k 0≠(heds s (swAll (List.range s) (wd.map (·.1)))).getD (k+1) 0
  ·rw [if_pos hc] at e0
   have hw1:WOk s (wd++[(k,t)]):=by
    intro p hp
    rcases List.mem_append.1 hp with h | h
    ·exact hw p h
    ·simp at h;subst h;exact ⟨hk0,ht⟩
   obtain ⟨wd',x5',u',h1,h2,h3,e⟩:=bc_go (cf:=cf) (A:=A) (B:=B) (xs:=xs) hs h5 hx h14 (ks:=ks) (wd:=wd++[(k,t)]) (x5:=some (.int k)) (u:=u1) (fun k' hk'=>hk k' (by simp [hk'])) hw1 (by simp;exact o216 hl)
   refine ⟨wd',x5',u',h1,?_,by simp at h3 ⊢;exact o175 h3,?_⟩
   ·rw [h2];simp only [cloC];rw [if_pos hc];simp [swAll]
   ·refine Eq.trans ?_ e
    rw [List.map_cons]
    exact forGo_n (ρ1:=[A,B,some (.list (xs.map .int)),some (.int s),some (.list (wI wd)),some (.int k),u,none,none,none,none,none,none]) rfl e0
  ·rw [if_neg hc] at e0
   obtain ⟨wd',x5',u',h1,h2,h3,e⟩:=bc_go (cf:=cf) (A:=A) (B:=B) (xs:=xs) hs h5 hx h14 (ks:=ks) (wd:=wd) (x5:=some (.int k)) (u:=u1) (fun k' hk'=>hk k' (by simp [hk'])) hw (by exact o224 hl)
   refine ⟨wd',x5',u',h1,?_,by simp;exact o174 h3,?_⟩
   ·rw [h2];simp only [cloC];rw [if_neg hc]
   ·refine Eq.trans ?_ e
    rw [List.map_cons]
    exact forGo_n (ρ1:=[A,B,some (.list (xs.map .int)),some (.int s),some (.list (wI wd)),some (.int k),u,none,none,none,none,none,none]) rfl e0
end Mine.Internal
end
section
namespace Mine.Internal
open PySem
structure Braid (s:Nat) (wd:List (Nat×Int)):Prop where
 h0:0 < s
 h5:s < 5
 ok:WOk s wd
 len:wd.length<=8
 one:s=1->wd=[]
 more:2<=s->∃ w0:List Nat,(∀ i∈w0,i+1 < s)/\wd.map (·.1)=w0++clo s (List.range (s-1)) (swAll (List.range s) w0)
theorem br_a3 {cf:Nat->List PV->Res PV} {A B:Option PV} {xs:List Int} (h:1 < xs.length) {s:Nat} (hs:(s:Int)=1+Int.fmod (xs.getD 0 0) 4):
  ex cf [A,B,some (.list (xs.map .int)),none,none,none,none,none,none,none,none,none,none] (.assign 3 (.bin .add (.const (.int 1)) (.bin .mod (.idx (.var 2) (.const (.int 0))) (.const (.int 4)))))=.ok (.next [A,B,some (.list (xs.map .int)),some (.int s),none,none,none,none,none,none,none,none,none]):=by
 have g:=xs_get (xs:=xs) (k:=0) (by exact o225 h)
 generalize xs.getD 0 0=v at g hs
 have g':(xs.map PV.int)[(0:Int).toNat]?=some (.int v):=g
 have h4:((4:Int)=0)=False:=by simp
 have h6:((0:Int)<=0)=True:=by simp
 rw [hs]
 simp only [xE1,vE6,vE14,vE1,vE2,slot,List.getElem?_cons_succ,List.getElem?_cons_zero,bindK,getIdxL,g',h6,if_true,bopA,bopR,addVI,int2K,h4,if_false]
 rfl
theorem br_src {cf:Nat->List PV->Res PV} {A:Option PV} {xs:List Int} (h:1 < xs.length) {s c:Nat} {W:PV} (hc:(c:Int)=Int.fmod (xs.getD 1 0) 6*(if 1 < s then 1 else 0)):
  evs cf [A,some (.int 5),some (.list (xs.map .int)),some (.int s),some W,none,none,none,none,none,none,none,none] [(.bin .mul (.bin .mod (.idx (.var 2) (.const (.int 1))) (.bin .add (.var 1) (.const (.int 1)))) (.prim .intOf [(.cmp .gt (.var 3) (.const (.int 1)))]))]=.ok [.int c]:=by
 have g:=xs_get (xs:=xs) (k:=1) (by exact o226 h)
 generalize xs.getD 1 0=v at g hc
 have hr:=fmod_range v (m:=6) (by decide)
 have g':(xs.map PV.int)[(1:Int).toNat]?=some (.int v):=g
 have h4:((5:Int)+1)=6:=rfl
 have h5:((6:Int)=0)=False:=by simp
 have h6:((0:Int)<=1)=True:=by simp
 have b1:big (Int.fmod v 6)=false:=by simp [big];exact yv37 hr.1 hr.2
 have b2:big 1=false:=by decide
 have b3:big 0=false:=by decide
 simp only [vE6,vE9,vE14,vE20,vE1,vE2,evsN,evsC,slot,List.getElem?_cons_succ,List.getElem?_cons_zero,bindK,getIdxL,g',h6,if_true,bopA,bopM,mulVI,bopR,addVI,int2K,h4,h5,if_false,copGt,int2K,prInt,p1K,intB]
 by_cases hs:1 < s
 ·have h1:((s:Int) > 1)=True:=by simp;exact o230 hs
  rw [if_pos hs] at hc
  simp [h1,b1,b2,hc,bindK]
 ·have h1:((s:Int) > 1)=False:=by simp;exact o231 hs
  rw [if_neg hs] at hc
  simp [h1,b1,b3,hc,bindK]
theorem braid {n:Nat} (x:Int):∃ s wd,Braid s wd/\callN f7_all (n+2) 19 [.int x,.int 5]=.ok (.tuple [.int (s:Nat),.list (wI wd)]):=by
 obtain ⟨xs,hl,hr,e12⟩:=stream (n:=n) x (many:=7) (by exact y107)
 have e12':callN f7_all (n+1) 15 [.int x,.int 7]=.ok (.list (xs.map .int)):=e12
 have r4:=fmod_range (xs.getD 0 0) (m:=4) (by decide)
 have r8:=fmod_range (xs.getD 1 0) (m:=6) (by decide)
 obtain ⟨s,hs⟩:∃ s:Nat,(s:Int)=1+Int.fmod (xs.getD 0 0) 4:=⟨(1+Int.fmod (xs.getD 0 0) 4).toNat,by exact v58 r4.1⟩
 obtain ⟨c,hc⟩:∃ c:Nat,(c:Int)=Int.fmod (xs.getD 1 0) 6*(if 1 < s then 1 else 0):=⟨(Int.fmod (xs.getD 1 0) 6*(if 1 < s then 1 else 0)).toNat,by split<;>(first | exact v59 r8.1 | exact v60)⟩
 have hc7:c<=5:=by split at hc<;>(first | exact yv38 r8.2 hc | exact yv39 hc)
 have h14:∀ {wd:List (Nat×Int)},(∀ p∈wd,p.1+1 < s)->callN f7_all (n+1) 18 [.int s,.list (wI wd)]=.ok (.list (aI (heds s (swAll (List.range s) (wd.map (·.1)))))):=fun h=>cycles (by exact o232 r4.1 hs) (by exact o233 r4.2 hs) h
 rw [c2 (by rfl)]
 generalize callN f7_all (n+1)=cf at *
 have head:∀ r,exs cf [some (.int x),some (.int 5),none,none,none,none,none,none,none,none,none,none,none] ((.assign 2 (.call 15 false [(.var 0),(.bin .add (.const (.int 2)) (.var 1))]))::(.assign 3 (.bin .add (.const (.int 1)) (.bin .mod (.idx (.var 2) (.const (.int 0))) (.const (.int 4)))))::(.assign 4 (.lst []))::r)=exs cf [some (.int x),some (.int 5),some (.list (xs.map .int)),some (.int s),some (.list (wI [])),none,none,none,none,none,none,none,none] r:=by
  intro r
  refine (exs_n (ρ':=[some (.int x),some (.int 5),some (.list (xs.map .int)),none,none,none,none,none,none,none,none,none,none]) (by first | rfl | simp [xE1,vE1,vE2,vE6,vE19,evsN,evsC,slot,bindK,bopA,addVI,e12'])).trans ?_
  refine (exs_n (br_a3 (by exact y110 hl) hs)).trans ?_
  exact exs_n (by rfl)
 by_cases h2:2<=s
 ·obtain ⟨wd,x5,k1,k2,e1⟩:=br_go (cf:=cf) (A:=some (.int x)) (B:=some (.int 5)) (u:=none) (xs:=xs) h2 (ks:=List.range c) (wd:=[]) (x5:=none) (by simp;intro k hk;rw [hl];exact Nat.lt_of_lt_of_le (Nat.add_lt_add_right hk 2) (Nat.add_le_add_right hc7 2)) (by simp [WOk]) (by simp;exact y112 hc7)
  obtain ⟨wd',x5',u',k3,k4,k5,e2⟩:=bc_go (cf:=cf) (A:=some (.int x)) (B:=some (.int 5)) (xs:=xs) h2 (by exact o233 r4.2 hs) (by exact y110 hl) h14 (ks:=List.range (s-1)) (wd:=wd) (x5:=x5) (u:=none) (by simp;exact fun k hk=>Nat.add_lt_of_lt_sub hk) k1 (by simp at k2 ⊢;exact y114 r4.2 hs hc7 k2)
  simp at k2 k5
  refine ⟨s,wd',⟨by exact o232 r4.1 hs,by exact o233 r4.2 hs,k3,by exact y115 r4.2 hs hc7 k2 k5,by intro e;exact absurd (e ▸ h2) (by decide),fun _=>⟨wd.map (·.1),fun i hi=>by obtain ⟨p,hp,rfl⟩:=List.mem_map.1 hi;exact (k1 p hp).1,k4⟩⟩,?_⟩
  refine run2 (o:=.ret _) (ρ:=[some (.int x),some (.int 5),none,none,none,none,none,none,none,none,none,none,none]) rfl rfl ?_
  refine (head _).trans ?_
  refine (exs_n (ex_for (br_src (by exact y110 hl) hc) (items_r1 (by exact y117 hc7)) e1)).trans ?_
  have e3:((s:Int)-1)=((s-1:Nat):Int):=by exact o242 r4.1 hs
  refine (exs_n (ex_for (xs:=[.int ((s-1:Nat):Int)]) (by rw [<-e3];simp [vE1,vE2,vE6,evsN,evsC,slot,bindK,bopS,int2K,int2K]) (items_r1 (by exact o243 r4.2 hs)) e2)).trans ?_
  exact exs_r (by rfl)
 ·have hs1:s=1:=by exact o244 r4.1 hs h2
  have hc0:c=0:=by rw [if_neg (by exact o245 h2)] at hc;exact v66 hc
  subst hc0
  refine ⟨s,[],⟨by exact o232 r4.1 hs,by exact o233 r4.2 hs,by simp [WOk],by simp,fun _=>rfl,fun h=>by exact (o246 h2 h).elim⟩,?_⟩
  refine run2 (o:=.ret _) (ρ:=[some (.int x),some (.int 5),none,none,none,none,none,none,none,none,none,none,none]) rfl rfl ?_
  refine (head _).trans ?_
  refine (exs_n (ρ':=[some (.int x),some (.int 5),some (.list (xs.map .int)),some (.int s),some (.list (wI [])),none,none,none,none,none,none,none,none]) (ex_for (br_src (by exact y110 hl) hc) (items_r1 (by exact o247)) rfl)).trans ?_
  refine (exs_n (ρ':=[some (.int x),some (.int 5),some (.list (xs.map .int)),some (.int s),some (.list (wI [])),none,none,none,none,none,none,none,none]) (ex_for (xs:=[.int ((0:Nat):Int)]) (by subst hs1;simp [vE1,vE2,vE6,evsN,evsC,slot,bindK,bopS,int2K,int2K]) (items_r1 (by exact o247)) rfl)).trans ?_
  exact exs_r (by rfl)
noncomputable def sgO (wd:List (Nat×Int)):Nat->Int:=fun l=>(wd.map (·.2)).getD l 1
theorem sgO_ok {s:Nat} {wd:List (Nat×Int)} (h:WOk s wd):Sg (sgO wd):=by
 intro l
 unfold sgO
 by_cases hl:l < wd.length
 ·have:(wd.map (·.2)).getD l 1=wd[l].2:=by simp [List.getD,hl]
  rw [this];exact (h _ (List.getElem_mem hl)).2
 ·have:(wd.map (·.2)).getD l 1=1:=by simp [List.getD,hl]
  rw [this];simp
noncomputable def rI (sg:Nat->Int) (R:List (Nat×Bool)):List PV:=R.map fun x=>PV.int (rv id sg x)
noncomputable def drB:List PS:=[(.unpack [8,9] (.idx (.var 3) (.var 7))),(.ite (.cmp .eq (.var 5) (.var 8)) [(.append 4 (.bin .mul (.bin .add (.var 7) (.const (.int 1))) (.neg (.var 9)))),(.assign 5 (.bin .add (.var 8) (.const (.int 1))))] [(.ite (.cmp .eq (.var 5) (.bin .add (.var 8) (.const (.int 1)))) [(.append 4 (.bin .mul (.bin .add (.var 7) (.const (.int 1))) (.var 9))),(.assign 5 (.var 8))] [])])]
noncomputable def drρ (a b c:Option PV) (wd:List (Nat×Int)) (acc:List (Nat×Bool)) (p:Nat) (x6 x7 x8 x9:Option PV):Slots:=[a,b,c,some (.list (wI wd)),some (.list (rI (sgO wd) acc)),some (.int p),x6,x7,x8,x9,none,none,none,none,none,none,none]
theorem rI_t {wd:List (Nat×Int)} {acc:List (Nat×Bool)} {l:Nat} {t:Int} (hsg:sgO wd l=t):rI (sgO wd) (acc++[(l,true)])=rI (sgO wd) acc++[.int (((l:Int)+1)*-t)]:=by simp [rI,rv,hsg]
theorem rI_f {wd:List (Nat×Int)} {acc:List (Nat×Bool)} {l:Nat} {t:Int} (hsg:sgO wd l=t):rI (sgO wd) (acc++[(l,false)])=rI (sgO wd) acc++[.int (((l:Int)+1)*t)]:=by simp [rI,rv,hsg]
theorem dr_step {cf:Nat->List PV->Res PV} {a b c x6 x8 x9:Option PV} {wd:List (Nat×Int)} {acc:List (Nat×Bool)} {p l i:Nat} {t:Int} (h:wd[l]?=some (i,t)) (ht:t=1\/t=-1) (hl:l < 1000) (ha:acc.length < 1000):
  ∃ x8' x9',exs cf (drρ a b c wd acc p x6 (some (.int l)) x8 x9) drB=.ok (.next (drρ a b c wd (acc++(if p=i then [(l,true)] else if p=i+1 then [(l,false)] else [])) (stp i p) x6 (some (.int l)) x8' x9')):=by
 have g:(wI wd)[l]?=some (.tuple [.int (i:Int),.int t]):=by simp [wI,h]
 have hsg:sgO wd l=t:=by simp [sgO,List.getD,h]
 have la:(rI (sgO wd) acc).length < lim:=by rw [rI,List.length_map,lim];exact o249 ha
 have b1:big ((l:Int)+1)=false:=by unfold big;exact decide_eq_false (by exact v67 hl)
 have b2:big t=false:=by rcases ht with rfl | rfl<;>decide
 have b3:big (-t)=false:=by rcases ht with rfl | rfl<;>decide
 refine ⟨some (.int i),some (.int t),?_⟩
 refine (exs_n (ρ':=drρ a b c wd acc p x6 (some (.int l)) (some (.int i)) (some (.int t))) ?_).trans ?_
 ·have e0:ev cf (drρ a b c wd acc p x6 (some (.int l)) x8 x9) (.idx (.var 3) (.var 7))=.ok (.tuple [.int i,.int t]):=by
   show (if (0:Int)<=l then (match (wI wd)[(l:Int).toNat]? with | some d=>Res.ok d | none=>.stuck) else .stuck)=_
   rw [if_pos (Int.natCast_nonneg l),Int.toNat_natCast,g]
  rw [xE3,e0];rfl
 unfold stp
 refine (exs_n ?_).trans exs_0
 rw [ex_ite (t:=((p:Int)==(i:Int))) rfl]
 by_cases h1:p=i
 ·subst h1
  rw [if_pos (beq_self_eq_true _),if_pos rfl,if_pos rfl]
  refine (exs_n (ex_append (l:=rI (sgO wd) acc) rfl (ev_mul (x:=(l:Int)+1) (y:=-t) rfl rfl b1 b3) la)).trans ((exs_n rfl).trans ?_)
  rw [exs_0];unfold drρ;rw [rI_t hsg];rfl
 ·have h1':((p:Int)==(i:Int))=false:=beq_false_of_ne (by exact o211 h1)
  rw [h1',if_neg (by decide),if_neg h1,if_neg h1]
  refine (exs_n ?_).trans exs_0
  rw [ex_ite (t:=((p:Int)==(i:Int)+1)) rfl]
  by_cases h2:p=i+1
  ·have h2':((p:Int)==(i:Int)+1)=true:=by rw [h2];exact beq_self_eq_true _
   rw [h2',if_pos rfl,if_pos h2,if_pos h2]
   refine (exs_n (ex_append (l:=rI (sgO wd) acc) rfl (ev_mul (x:=(l:Int)+1) (y:=t) rfl rfl b1 b2) la)).trans ((exs_n rfl).trans ?_)
   rw [exs_0];unfold drρ;rw [rI_f hsg];rfl
  ·have h2':((p:Int)==(i:Int)+1)=false:=beq_false_of_ne (by exact o254 h2)
   rw [h2',if_neg (by decide),if_neg h2,if_neg h2,List.append_nil]
   exact exs_0
theorem wlk_len:∀ {v:List Nat} {l p:Nat},(wlk v l p).length<=v.length
 | [],_,_=>by simp [wlkN]
 | i::v,l,p=>by
  have:=wlk_len (v:=v) (l:=l+1) (p:=stp i p)
  simp only [wlkC,List.length_append,List.length_cons]
  split;simp;exact o248 this;split<;>simp<;>(first | exact o248 this | exact o53 this)
theorem dr_go1 {cf:Nat->List PV->Res PV} {a b c x6:Option PV} {wd:List (Nat×Int)} {s:Nat} (hw:WOk s wd) (hl:wd.length<=10):∀ {v pre:List (Nat×Int)} {acc:List (Nat×Bool)} {p:Nat} {x7 x8 x9:Option PV},wd=pre++v->acc.length+v.length < 1000 ->
  ∃ x7' x8' x9',forGo (fun ρ'=>exs cf ρ' drB) (.one 7) ((List.range' pre.length v.length).map fun (k:Nat)=>PV.int (k:Int)) (drρ a b c wd acc p x6 x7 x8 x9)=.ok (.next (drρ a b c wd (acc++wlk (v.map (·.1)) pre.length p) (fin (v.map (·.1)) p) x6 x7' x8' x9'))
 | [],pre,acc,p,x7,x8,x9,_,_=>⟨x7,x8,x9,by simp [forN,wlkN,finN]⟩
 | (i,t)::v,pre,acc,p,x7,x8,x9,h,hn=>by
  have hget:wd[pre.length]?=some (i,t):=by rw [h];simp
  have ht:=(hw (i,t) (by rw [h];simp)).2
  have hpl:pre.length < 1000:=by rw [h] at hl;simp at hl;exact o251 hl
  obtain ⟨y8,y9,e0⟩:=dr_step (cf:=cf) (a:=a) (b:=b) (c:=c) (x6:=x6) (x8:=x8) (x9:=x9) (acc:=acc) (p:=p) hget ht hpl (by exact o252 hn)
  obtain ⟨x7',x8',x9',e⟩:=dr_go1 (cf:=cf) (a:=a) (b:=b) (c:=c) (x6:=x6) hw hl (v:=v) (pre:=pre++[(i,t)]) (acc:=acc++(if p=i then [(pre.length,true)] else if p=i+1 then [(pre.length,false)] else [])) (p:=stp i p) (x7:=some (.int pre.length)) (x8:=y8) (x9:=y9) (by simp [h]) (by
   simp at hn ⊢;split;simp;exact o156 hn;split<;>simp<;>(first | exact o156 hn | exact o253 hn))
  refine ⟨x7',x8',x9',?_⟩
  rw [List.length_append,List.length_singleton] at e
  have e':wlk (((i,t)::v).map (·.1)) pre.length p=(if p=i then [(pre.length,true)] else if p=i+1 then [(pre.length,false)] else [])++wlk (v.map (·.1)) (pre.length+1) (stp i p):=rfl
  rw [e',<-List.append_assoc]
  refine Eq.trans ?_ e
  rw [List.length_cons,List.range'_succ,List.map_cons]
  exact forGo_n rfl e0
noncomputable def drO:List PS:=[(.for_ (.one 7) .range1 [(.prim .len [(.var 3)])] drB)]
theorem dr_turn {cf:Nat->List PV->Res PV} {a b c x6 x7 x8 x9:Option PV} {wd:List (Nat×Int)} {s:Nat} (hw:WOk s wd) (hl:wd.length<=10) {acc:List (Nat×Bool)} {p:Nat} (ha:acc.length+wd.length < 1000):
  ∃ x7' x8' x9',exs cf (drρ a b c wd acc p x6 x7 x8 x9) drO=.ok (.next (drρ a b c wd (acc++wlk (wd.map (·.1)) 0 p) (fin (wd.map (·.1)) p) x6 x7' x8' x9')):=by
 obtain ⟨x7',x8',x9',e⟩:=dr_go1 (cf:=cf) (a:=a) (b:=b) (c:=c) (x6:=x6) (x7:=x7) (x8:=x8) (x9:=x9) hw hl (v:=wd) (pre:=[]) (acc:=acc) (p:=p) rfl ha
 refine ⟨x7',x8',x9',?_⟩
 rw [List.length_nil,<-List.range_eq_range'] at e
 refine (exs_n (ex_for (xs:=[.int (wd.length:Nat)]) (by first | rfl | simp [vE1,vE20,evsN,evsC,slot,bindK,prLen,p1K,lenL,drρ,wI_len]) (items_r1 (by exact o250 hl)) e)).trans exs_0
theorem dr_go2 {cf:Nat->List PV->Res PV} {a b c:Option PV} {wd:List (Nat×Int)} {s:Nat} (hw:WOk s wd) (hl:wd.length<=10):∀ {ts:List Nat} {acc:List (Nat×Bool)} {p:Nat} {x6 x7 x8 x9:Option PV},acc.length+ts.length*10 < 500 ->
  ∃ x6' x7' x8' x9' p',forGo (fun ρ'=>exs cf ρ' drO) (.one 6) (ts.map fun (k:Nat)=>PV.int (k:Int)) (drρ a b c wd acc p x6 x7 x8 x9)=.ok (.next (drρ a b c wd (acc++rnd (wd.map (·.1)) ts.length p) p' x6' x7' x8' x9'))
 | [],acc,p,x6,x7,x8,x9,_=>⟨x6,x7,x8,x9,p,by simp [forN,rnd0]⟩
 | k::ts,acc,p,x6,x7,x8,x9,hn=>by
  simp at hn
  have hwl:=wlk_len (v:=wd.map (·.1)) (l:=0) (p:=p)
  rw [List.length_map] at hwl
  obtain ⟨y7,y8,y9,e0⟩:=dr_turn (cf:=cf) (a:=a) (b:=b) (c:=c) (x6:=some (.int k)) (x7:=x7) (x8:=x8) (x9:=x9) hw hl (acc:=acc) (p:=p) (by exact v68 hl hn)
  obtain ⟨x6',x7',x8',x9',p',e⟩:=dr_go2 (cf:=cf) (a:=a) (b:=b) (c:=c) hw hl (ts:=ts) (acc:=acc++wlk (wd.map (·.1)) 0 p) (p:=fin (wd.map (·.1)) p) (x6:=some (.int k)) (x7:=y7) (x8:=y8) (x9:=y9) (by simp;exact v69 hl hn hwl)
  refine ⟨x6',x7',x8',x9',p',?_⟩
  rw [List.append_assoc] at e
  refine Eq.trans ?_ e
  rw [List.map_cons]
  exact forGo_n rfl e0
end Mine.Internal
end
section
namespace Mine.Internal
open PySem
theorem mx_pos {a:Int}:0 < (if 1 < a then a else 1):=by split<;>first | exact Int.lt_trans (show (0:Int) < 1 by decide) (by assumption) | decide
theorem dr_comp {cf:Nat->List PV->Res PV} {a0 a1 a2 a3 a4 a5 a6 a7 a8 a9 a10:Option PV}:∀ {wd:List (Nat×Int)} {u v:Option PV},
  compGo (fun ρ'=>ev cf ρ' (.var 12)) (fun ρ'=>evAnd cf ρ' []) (.many [11,12]) (wI wd) [a0,a1,a2,a3,a4,a5,a6,a7,a8,a9,a10,u,v,none,none,none,none]=.ok (wd.map fun p=>PV.int p.2)
 | [],u,v=>rfl
 | (i,t)::wd,u,v=>by
  have:=dr_comp (cf:=cf) (a0:=a0) (a1:=a1) (a2:=a2) (a3:=a3) (a4:=a4) (a5:=a5) (a6:=a6) (a7:=a7) (a8:=a8) (a9:=a9) (a10:=a10) (wd:=wd) (u:=some (.int i)) (v:=some (.int t))
  show compGo _ _ _ (PV.tuple [.int (i:Int),.int t]::wI wd) _=_
  simp only [vE1,evAndN,slot] at this ⊢
  simp [compC,tgtM,bindK,this]
theorem dr_fin {cf:Nat->List PV->Res PV} {x:Int} {a1 a2 x6 x7 x8 x9:Option PV} {wd:List (Nat×Int)} {R:List (Nat×Bool)} {p k:Nat} {X:PV} (hk:k<=R.length) (hR:R.length < 500) (hw:wd.length<=10)
  (h13:cf 17 [.list (rot k (rI (sgO wd) R)),.list (.int 0::wd.map fun p=>PV.int p.2)]=.ok X):
  ex cf [some (.int x),a1,a2,some (.list (wI wd)),some (.list (rI (sgO wd) R)),some (.int p),x6,x7,x8,x9,some (.int k),none,none,none,none,none,none] (.ret (.call 17 false [(.bin .add (.slL (.var 4) (.var 10)) (.slH (.var 4) (.var 10))),(.bin .add (.lst [(.const (.int 0))]) (.comp (.var 12) (.many [11,12]) .seq [(.var 3)] []))]))=.ok (.ret X):=by
 have hl:(rI (sgO wd) R).length=R.length:=by simp [rI]
 have c1:=cut_lo (l:=rI (sgO wd) R) (k:=k) (by exact o255 hk hl)
 have c2:=cut_hi (l:=rI (sgO wd) R) (k:=k) (by exact o255 hk hl)
 have m1:mkL ((rI (sgO wd) R).drop k++(rI (sgO wd) R).take k)=.ok (.list (rot k (rI (sgO wd) R))):=by
  have:((rI (sgO wd) R).drop k++(rI (sgO wd) R).take k).length<=lim:=by rw [List.length_append,List.length_drop,List.length_take,hl,lim];exact o258 hR
  unfold mkL;rw [if_pos this];rfl
 have m2:mkL [PV.int 0]=.ok (.list [.int 0]):=rfl
 have m3:mkL ([PV.int 0]++wd.map fun p=>PV.int p.2)=.ok (.list (.int 0::wd.map fun p=>PV.int p.2)):=by
  have:([PV.int 0]++wd.map fun p=>PV.int p.2).length<=lim:=by rw [List.length_append,List.length_map,List.length_singleton,lim];exact o260 hw
  unfold mkL;rw [if_pos this];rfl
 have cm:ev cf [some (.int x),a1,a2,some (.list (wI wd)),some (.list (rI (sgO wd) R)),some (.int p),x6,x7,x8,x9,some (.int k),none,none,none,none,none,none] (.comp (.var 12) (.many [11,12]) .seq [(.var 3)] [])=.ok (.list (wd.map fun p=>PV.int p.2)):=by
  refine ev_comp (xs:=[.list (wI wd)]) (ds:=wI wd) (by rfl) rfl ?_ (by rw [List.length_map,lim];exact o164 hw)
  exact dr_comp
 simp only [xE11,vE19,vE6,vE16,vE17,vE4,vE1,vE2,evsN,evsC,cm,slot,List.getElem?_cons_succ,List.getElem?_cons_zero,bindK,sliceLL,sliceHL,c1,c2,bopA,addVL,m1,m2,m3,h13,Bool.not_false,Bool.true_or,if_true]
theorem rnd_len {w:List Nat}:∀ {t p:Nat},(rnd w t p).length<=t*w.length
 | 0,_=>by simp [rnd0]
 | t+1,p=>by
  have h1:=wlk_len (v:=w) (l:=0) (p:=p)
  have h2:=rnd_len (w:=w) (t:=t) (p:=fin w p)
  rw [rndS,List.length_append,Nat.add_mul];exact o256 h1 h2
theorem drawn {n:Nat} (x:Int):∃ s wd k,Braid s wd/\k<=(rnd (wd.map (·.1)) s 0).length/\callN f7_all (n+3) 20 [.int x,.int 5]=.ok (dI (dps (rot k (rnd (wd.map (·.1)) s 0)) (sgO wd),dts (rot k (rnd (wd.map (·.1)) s 0)) (sgO wd))):=by
 obtain ⟨s,wd,B,e15⟩:=braid (n:=n) x
 have hwl:wd.length<=10:=Nat.le_trans B.len (by decide)
 have h5:=B.h5
 have hrl:=rnd_len (w:=wd.map (·.1)) (t:=s) (p:=0)
 rw [List.length_map] at hrl
 have hrl2:(rnd (wd.map (·.1)) s 0).length<=40:=Nat.le_trans hrl (Nat.mul_le_mul (show s<=4 by exact o257 h5) hwl)
 have hsg:=sgO_ok B.ok
 have hlev:∀ {l:Nat} {b:Bool},(l,b)∈rnd (wd.map (·.1)) s 0->l < wd.length:=by
  intro l b h
  obtain ⟨t,-,h⟩:=mem_rnd.1 h
  obtain ⟨i,e,h1,-⟩:=mem_wlk.1 h
  rw [List.length_map] at h1;exact o128 e h1
 generalize hR:rnd (wd.map (·.1)) s 0=R at *
 have hM:(0:Int) < (if (1:Int) < (R.length:Int) then (R.length:Int) else 1):=mx_pos
 have hr:=fmod_range (Int.fmod x 1009) hM
 obtain ⟨k,hk⟩:∃ k:Nat,(k:Int)=Int.fmod (Int.fmod x 1009) (if (1:Int) < (R.length:Int) then (R.length:Int) else 1):=⟨(Int.fmod (Int.fmod x 1009) (if (1:Int) < (R.length:Int) then (R.length:Int) else 1)).toNat,by exact v53 hr.1⟩
 have hkl:k<=R.length:=by
  by_cases h:(1:Int) < (R.length:Int)
  ·rw [if_pos h] at hr hk;exact o263 hr.2 hk
  ·rw [if_neg h] at hr hk;exact o264 hr.2 hk
 refine ⟨s,wd,k,B,by rw [hR];exact hkl,?_⟩
 rw [hR]
 have e13:=law_numbered (n:=n+1) hsg (q:=id) (R:=rot k R) (fun a _ b _ e=>e) (by simp [rot];exact o265 hrl2) (P:=.list (rot k (rI (sgO wd) R))) (T:=.list (.int 0::wd.map fun p=>PV.int p.2)) (by
  rw [rI,rot_map];rfl) (by
  intro l hl
  obtain ⟨b,hb⟩:=mem_ordL.1 hl
  have hm:(l,b)∈R:=by
   unfold rot at hb
   rcases List.mem_append.1 hb with h | h
   ·exact List.mem_of_mem_drop h
   ·exact List.mem_of_mem_take h
  have hlt:=hlev hm
  have t1:((l:Int)+1).toNat=l+1:=by exact v51
  have t2:(0:Int)<=(l:Int)+1:=by exact o187
  have g:(PV.int 0::wd.map fun p=>PV.int p.2)[l+1]?=some (.int (sgO wd l)):=by
   simp [sgO,List.getD,hlt]
  simp only [getIdxL,id,t1,t2,if_true,g])
 have e13':callN f7_all (n+2) 17 [.list (rot k (rI (sgO wd) R)),.list (.int 0::wd.map fun p=>PV.int p.2)]=.ok (dI (dps (rot k R) (sgO wd),dts (rot k R) (sgO wd))):=e13
 clear e13
 rw [c2 (by rfl)]
 generalize callN f7_all (n+2)=cf at *
 obtain ⟨x6,x7,x8,x9,p,e⟩:=dr_go2 (cf:=cf) (a:=some (.int x)) (b:=some (.int 5)) (c:=some (.int s)) B.ok hwl (ts:=List.range s) (acc:=[]) (p:=0) (x6:=none) (x7:=none) (x8:=none) (x9:=none) (by simp;exact v70 h5)
 rw [List.length_range,List.nil_append,hR] at e
 refine run2 (o:=.ret _) (ρ:=[some (.int x),some (.int 5),none,none,none,none,none,none,none,none,none,none,none,none,none,none,none]) rfl rfl ?_
 refine (exs_n (ρ':=[some (.int x),some (.int 5),some (.int s),some (.list (wI wd)),none,none,none,none,none,none,none,none,none,none,none,none,none]) (by first | rfl | simp [xE3,vE1,vE19,evsN,evsC,slot,tgtM,bindK,e15])).trans ?_
 refine (exs_n (ρ':=[some (.int x),some (.int 5),some (.int s),some (.list (wI wd)),some (.list (rI (sgO wd) [])),none,none,none,none,none,none,none,none,none,none,none,none]) (by rfl)).trans ?_
 refine (exs_n (ρ':=drρ (some (.int x)) (some (.int 5)) (some (.int s)) wd [] 0 none none none none) (by rfl)).trans ?_
 refine (exs_n (ex_for (xs:=[.int s]) (by rfl) (items_r1 (by exact o205 h5)) e)).trans ?_
 refine (exs_n (ρ':=[some (.int x),some (.int 5),some (.int s),some (.list (wI wd)),some (.list (rI (sgO wd) R)),some (.int p),x6,x7,x8,x9,some (.int k),none,none,none,none,none,none]) ?_).trans ?_
 ·have hl:(rI (sgO wd) R).length=R.length:=by simp [rI]
  have h1:((1009:Int)=0)=False:=by simp
  have h2:((if (1:Int) < (R.length:Int) then (R.length:Int) else 1)=0)=False:=eq_false (Int.ne_of_gt mx_pos)
  rw [hk]
  simp only [drρ,xE1,vE6,vE20,vE1,vE2,evsN,evsC,slot,List.getElem?_cons_succ,List.getElem?_cons_zero,bindK,bopR,int2K,prLen,prMax,p1K,p2K,lenL,h1,if_false,hl,h2]
  rfl
 ·exact exs_r (dr_fin hkl (by exact o267 hrl2) hwl e13')
end Mine.Internal
end
section
namespace Mine.Internal
open PySem
theorem fmod_nat {a m:Nat}:Int.fmod ((a:Int)+1) (m:Int)=(((a+1) % m:Nat):Int):=by
 rw [Int.fmod_eq_emod_of_nonneg _ (Int.natCast_nonneg m)];rfl
theorem indexIn_at {L:List Int} {k:Int} {a:Nat} (h:L.idxOf? k=some a):indexIn (L.map .int) (.int k)=.ok (.int a):=by simp only [indexIn,ints_map,h]
theorem getIdx_at {g:List Int} {a:Nat} (h:a < g.length):getIdx (.list (g.map .int)) (.int a)=.ok (.int (g.getD a 0)):=by
 rw [getIdxL,if_pos (Int.natCast_nonneg _),Int.toNat_natCast,List.getElem?_map,List.getElem?_eq_getElem h,List.getD_eq_getElem?_getD,List.getElem?_eq_getElem h];rfl
theorem ev_idx {cf:Nat->List PV->Res PV} {ρ:Slots} {a b:PE} {x y d:PV} (h1:ev cf ρ a=.ok x) (h2:ev cf ρ b=.ok y) (h:getIdx x y=.ok d):ev cf ρ (.idx a b)=.ok d:=by rw [vE14,h1,bindK,h2];exact h
theorem ev_index {cf:Nat->List PV->Res PV} {ρ:Slots} {a b:PE} {x y d:PV} (h1:ev cf ρ a=.ok x) (h2:ev cf ρ b=.ok y) (h:index1 x y=.ok d):ev cf ρ (.index a b)=.ok d:=by rw [vE21,h1,bindK,h2];exact h
theorem mod_nat {a m:Nat} (h:0 < m):binop .mod (.int ((a:Int)+1)) (.int m)=.ok (.int ((a+1) % m:Nat)):=by
 show (if (m:Int)=0 then _ else _)=_
 rw [if_neg (by exact y7 h),fmod_nat]
section
variable {n m a b:Nat} {ps:List Int} {k:Int}
theorem gaps_at (h1:ps.idxOf? k=some a) (h2:ps.idxOf? (-k)=some b) (hm:0 < ps.length):
  callN f7_all (n+1) 8 [.list (ps.map .int),.int k]=.ok (.tuple [.int a,.int ((a+1) % ps.length:Nat),.int b,.int ((b+1) % ps.length:Nat)]):=by
 rw [c2 (by rfl)]
 generalize callN f7_all n=cf
 have hl:(ps.map PV.int).length=ps.length:=List.length_map ..
 refine run2 (o:=.ret _) (ρ:=[some (.list (ps.map .int)),some (.int k),none,none,none,none,none,none,none,none,none]) rfl rfl ?_
 refine (exs_n (ρ':=[some (.list (ps.map .int)),some (.int k),some (.int ps.length),none,none,none,none,none,none,none,none]) (by rw [<-hl];rfl)).trans ?_
 refine (exs_n (ex_assign (ev_index (x:=.list (ps.map .int)) (y:=.int k) (d:=.int a) rfl rfl (indexIn_at h1)))).trans ?_
 refine (exs_n (ex_assign (ev_index (x:=.list (ps.map .int)) (y:=.int (-k)) (d:=.int b) rfl (by show Res.ok (PV.int (0-k))=_;rw [Int.zero_sub]) (indexIn_at h2)))).trans ?_
 refine exs_r (ex_ret ?_)
 rw [vE3,evsC,show ev cf _ (.var 3)=.ok (.int a) from rfl,bindK,evsC,ev_bin (d:=.int ((a+1) % ps.length:Nat)) (x:=.int ((a:Int)+1)) rfl rfl (mod_nat hm),bindK,evsC,show ev cf _ (.var 4)=.ok (.int b) from rfl,bindK,evsC,ev_bin (d:=.int ((b+1) % ps.length:Nat)) (x:=.int ((b:Int)+1)) rfl rfl (mod_nat hm)]
 rfl
noncomputable def Jn (m a b:Nat) (s:Bool):List (Nat×Nat):=if s then [(a,(b+1) % m),(b,(a+1) % m)] else [(a,b),((a+1) % m,(b+1) % m)]
noncomputable def jI (l:List (Nat×Nat)):List PV:=l.map fun q=>.tuple [.int q.1,.int q.2]
theorem joins_of {s:Bool} (h1:ps.idxOf? k=some a) (h2:ps.idxOf? (-k)=some b) (hm:0 < ps.length):
  callN f7_all (n+2) 9 [.list (ps.map .int),.int k,.bool s]=.ok (.list (jI (Jn ps.length a b s))):=by
 rw [c2 (by rfl)]
 have g:=gaps_at (n:=n) h1 h2 hm
 generalize callN f7_all (n+1)=cf at g
 refine run2 (o:=.ret _) (ρ:=[some (.list (ps.map .int)),some (.int k),some (.bool s),none,none,none,none,none,none,none,none,none,none]) rfl rfl ?_
 refine (exs_n (ρ':=[some (.list (ps.map .int)),some (.int k),some (.bool s),some (.int a),some (.int ((a+1) % ps.length:Nat)),some (.int b),some (.int ((b+1) % ps.length:Nat)),none,none,none,none,none,none]) (by rw [xE3,ev_call (xs:=[.list (ps.map .int),.int k]) rfl g];rfl)).trans ?_
 cases s with
 | true=>exact exs_r ((ex_ite (t:=true) rfl).trans rfl)
 | false=>exact (exs_n ((ex_ite (t:=false) rfl).trans rfl)).trans (exs_r rfl)
end
noncomputable def loρ (M J:PV) (g:List Int) (u3 u4 u5 u6:Option PV):Slots:=[some M,some J,some (.list (g.map .int)),u3,u4,u5,u6,none,none,none,none,none,none]
noncomputable def loB:List PS:=[(.assign 5 (.idx (.var 2) (.var 3))),(.assign 6 (.idx (.var 2) (.var 4))),(.ite (.cmp .ne (.var 5) (.var 6)) [(.assign 2 (.comp (.ite (.cmp .eq (.var 7) (.var 6)) (.var 5) (.var 7)) (.one 7) .seq [(.var 2)] []))] [])]
section
variable {cf:Nat->List PV->Res PV} {M J:PV} {g:List Int} {a b:Nat} {u3 u4 u5 u6:Option PV}
theorem eq_int {x y:Int}:cmpop .ne (.int x) (.int y)=.ok (decide (x≠y)):=by
 show Res.ok (!(x==y))=_
 congr 1
 by_cases h:x=y
 ·rw [decide_eq_false fun z=>z h,beq_iff_eq.2 h];rfl
 ·rw [decide_eq_true h,beq_eq_false_iff_ne.2 h];rfl
theorem lo_step (ha:a < g.length) (hb:b < g.length) (hl:g.length<=1000):
  exs cf (loρ M J g (some (.int a)) (some (.int b)) u5 u6) loB=.ok (.next (loρ M J (mg g a b) (some (.int a)) (some (.int b)) (some (.int (g.getD a 0))) (some (.int (g.getD b 0))))):=by
 refine (exs_n (ρ':=loρ M J g (some (.int a)) (some (.int b)) (some (.int (g.getD a 0))) u6) (ex_assign (ev_idx rfl rfl (getIdx_at ha)))).trans ?_
 refine (exs_n (ρ':=loρ M J g (some (.int a)) (some (.int b)) (some (.int (g.getD a 0))) (some (.int (g.getD b 0)))) (ex_assign (ev_idx rfl rfl (getIdx_at hb)))).trans ?_
 have hc:ev cf (loρ M J g (some (.int a)) (some (.int b)) (some (.int (g.getD a 0))) (some (.int (g.getD b 0)))) (.cmp .ne (.var 5) (.var 6))=.ok (.bool (decide (g.getD a 0≠g.getD b 0))):=ev_cmp rfl rfl eq_int
 generalize hx:g.getD a 0=x at *
 generalize hy:g.getD b 0=y at *
 unfold mg
 rw [hx,hy]
 by_cases h:x=y
 ·rw [if_neg fun z=>z h]
  rw [decide_eq_false fun z=>z h] at hc
  exact (exs_n (ex_skip hc)).trans exs_0
 ·rw [if_pos h]
  rw [decide_eq_true h] at hc
  refine (exs_n (ρ':=loρ M J (g.map fun z=>if z=y then x else z) (some (.int a)) (some (.int b)) (some (.int x)) (some (.int y))) ((ex_ite hc).trans (((if_pos rfl).trans (exs_n (ex_assign (d:=.list ((g.map fun z=>if z=y then x else z).map .int)) ?_))).trans exs_0))).trans exs_0
  refine ev_comp (xs:=[.list (g.map .int)]) (ds:=g.map .int) rfl rfl ?_ (by rw [List.length_map,List.length_map];unfold lim;exact y8 hl)
  rw [List.map_map]
  refine comp_map2 (a:=PV.int) (b:=fun z=>.int (if z=y then x else z)) fun z _=>⟨rfl,?_⟩
  show (if (z==y)=true then Res.ok (PV.int x) else Res.ok (PV.int z))=_
  by_cases e:z=y
  ·rw [if_pos (beq_iff_eq.2 e),if_pos e]
  ·rw [if_neg (fun q=>e (beq_iff_eq.1 q)),if_neg e]
theorem lo_go:∀ {js:List (Nat×Nat)} {g:List Int} {u3 u4 u5 u6:Option PV},(∀ q∈js,q.1 < g.length/\q.2 < g.length)->g.length<=1000->∃ v3 v4 v5 v6,forGo (fun ρ'=>exs cf ρ' loB) (.many [3,4]) (jI js) (loρ M J g u3 u4 u5 u6)=.ok (.next (loρ M J (mgs g js) v3 v4 v5 v6))
 | [],_,u3,u4,u5,u6,_,_=>⟨u3,u4,u5,u6,rfl⟩
 | q::js,g,u3,u4,u5,u6,h,hl=>by
  obtain ⟨v3,v4,v5,v6,e⟩:=lo_go (js:=js) (g:=mg g q.1 q.2) (u3:=some (.int q.1)) (u4:=some (.int q.2)) (u5:=some (.int (g.getD q.1 0))) (u6:=some (.int (g.getD q.2 0))) (fun r hr=>by rw [mg_len];exact h r (List.mem_cons_of_mem _ hr)) (by rw [mg_len];exact hl)
  refine ⟨v3,v4,v5,v6,(forGo_n (ρ1:=loρ M J g (some (.int q.1)) (some (.int q.2)) u5 u6) rfl (lo_step (h q List.mem_cons_self).1 (h q List.mem_cons_self).2 hl)).trans e⟩
end
noncomputable def rg (m:Nat):List Int:=(List.range m).map fun i:Nat=>(i:Int)
theorem rg_len {m:Nat}:(rg m).length=m:=by unfold rg;rw [List.length_map,List.length_range]
theorem ev_rg {cf:Nat->List PV->Res PV} {ρ:Slots} {m:Nat} {e:PE} (hm:m<=1000) (h:ev cf ρ e=.ok (.int m)):ev cf ρ (.prim .listRange [e])=.ok (.list ((rg m).map .int)):=by
 rw [vE20,evsC,h,bindK,evsN,bindK,bindK,prRng,items_r1 hm,bindK]
 unfold mkL rg
 rw [List.map_map,if_pos (by rw [List.length_map,List.length_range];unfold lim;exact y8 hm)];rfl
theorem set_at {g:List Int} (h:g.length < 1000):set1 (.list (g.map .int))=.ok (.int (dcnt g)):=by
 show (match PV.ints? (g.map .int) with | some is=>if decide (is.length < 1000) then Res.ok (PV.int (dcnt is)) else .stuck | Option.none=>.stuck)=_
 rw [ints_map]
 exact if_pos (decide_eq_true h)
theorem loops_of {n m:Nat} {js:List (Nat×Nat)} (hm:m < 1000) (h:∀ q∈js,q.1 < m/\q.2 < m):callN f7_all (n+1) 10 [.int m,.list (jI js)]=.ok (.int (dcnt (mgs (rg m) js))):=by
 rw [c2 (by rfl)]
 generalize callN f7_all n=cf
 refine run2 (o:=.ret _) (ρ:=[some (.int m),some (.list (jI js)),none,none,none,none,none,none,none,none,none,none,none]) rfl rfl ?_
 refine (exs_n (ρ':=loρ (.int m) (.list (jI js)) (rg m) none none none none) (ex_assign (ev_rg (Nat.le_of_lt hm) rfl))).trans ?_
 obtain ⟨v3,v4,v5,v6,e⟩:=lo_go (cf:=cf) (M:=.int m) (J:=.list (jI js)) (js:=js) (g:=rg m) (u3:=none) (u4:=none) (u5:=none) (u6:=none) (fun q hq=>by rw [rg_len];exact h q hq) (by rw [rg_len];exact Nat.le_of_lt hm)
 refine (exs_n (ex_for (xs:=[.list (jI js)]) rfl rfl e)).trans (exs_r (ex_ret ?_))
 rw [vE20,evsC,show ev cf (loρ (.int m) (.list (jI js)) (mgs (rg m) js) v3 v4 v5 v6) (.var 2)=.ok (.list ((mgs (rg m) js).map .int)) from rfl,bindK,evsN,bindK,bindK]
 exact set_at (by rw [mgs_len,rg_len];exact hm)
end Mine.Internal
end
section
namespace Mine.Internal
open PySem
section
variable {x:Key×PV} {l:List (Key×PV)} {k:Key} {v:PV}
theorem dget_hit (h:x.1=k):dget (x::l) k=some x.2:=by unfold dget;rw [List.find?_cons_of_pos (by exact decide_eq_true h)];rfl
theorem dget_miss (h:x.1≠k):dget (x::l) k=dget l k:=by unfold dget;rw [List.find?_cons_of_neg (by simpa using h)]
theorem dhas_cons:dhas (x::l) k=(decide (x.1=k)||dhas l k):=rfl
theorem map_miss:∀ {l:List (Key×PV)},dhas l k=false->l.map (fun p=>if p.1=k then (p.1,v) else p)=l
 | [],_=>rfl
 | y::l,h=>by
  rw [dhas_cons,Bool.or_eq_false_iff] at h
  rw [List.map_cons,if_neg (of_decide_eq_false h.1),map_miss h.2]
theorem dput_hit (h:x.1=k) (h2:dhas l k=false):dput (x::l) k v=(x.1,v)::l:=by
 unfold dput
 rw [dhas_cons,decide_eq_true h,Bool.true_or,if_pos rfl,List.map_cons,if_pos h,map_miss h2]
theorem dput_miss (h:x.1≠k):dput (x::l) k v=x::dput l k v:=by
 unfold dput
 rw [dhas_cons,decide_eq_false h,Bool.false_or]
 split
 ·rw [List.map_cons,if_neg h]
 ·rfl
end
noncomputable def dZ (L:List (Int×Int)):List (Key×PV):=L.map fun q=>(Key.int q.1,PV.int q.2)
noncomputable def kC (k:Int×Nat):Key:=.tup [k.1,(k.2:Int)]
noncomputable def dC (C:List ((Int×Nat)×Int)):List (Key×PV):=C.map fun q=>(kC q.1,PV.int q.2)
theorem kint_inj {a b:Int} (h:Key.int a=Key.int b):a=b:=by injection h
theorem kC_inj {a b:Int×Nat} (h:kC a=kC b):a=b:=by
 unfold kC at h
 injection h with h
 injection h with h1 h2
 injection h2 with h2
 exact Prod.ext h1 (Int.ofNat.inj h2)
section
variable {L:List (Int×Int)} {k v:Int}
theorem dZ_fits {i:Int}:dfits (dZ L) (.int i)=true:=by unfold dfits dZ;rw [List.all_map,List.all_eq_true];exact fun q _=>rfl
theorem dZ_get:∀ {L:List (Int×Int)},dget (dZ L) (.int k)=(zget L k).map PV.int
 | []=>rfl
 | q::L=>by
  show dget ((Key.int q.1,PV.int q.2)::dZ L) (.int k)=_
  rw [zgetC]
  by_cases h:q.1=k
  ·rw [if_pos h,dget_hit (congrArg Key.int h)];rfl
  ·rw [if_neg h,dget_miss fun e=>h (kint_inj e),dZ_get]
theorem dZ_has:∀ {L:List (Int×Int)},k∉ks L->dhas (dZ L) (.int k)=false
 | [],_=>rfl
 | q::L,h=>by
  show (decide (Key.int q.1=Key.int k)||dhas (dZ L) (.int k))=false
  rw [decide_eq_false (fun e=>h ((kint_inj e:q.1=k) ▸ List.mem_cons_self)),dZ_has fun m=>h (List.mem_cons_of_mem _ m)];rfl
theorem dZ_put:∀ {L:List (Int×Int)},(ks L).Nodup->dput (dZ L) (.int k) (.int ((zget L k).getD 0+v))=dZ (acc L k v)
 | [],_=>rfl
 | q::L,h=>by
  have h:=List.nodup_cons.1 h
  show dput ((Key.int q.1,PV.int q.2)::dZ L) _ _=_
  rw [zgetC,accC]
  by_cases e:q.1=k
  ·rw [if_pos e,if_pos e,dput_hit (congrArg Key.int e) (dZ_has (e ▸ h.1))];rfl
  ·rw [if_neg e,if_neg e,dput_miss fun z=>e (kint_inj z),dZ_put h.2];rfl
theorem dZ_idx {q:Int×Int} (h:(ks L).Nodup) (m:q∈L):getIdx (.dict (dZ L)) (.int q.1)=.ok (.int q.2):=by
 show (if dfits (dZ L) (.int q.1)=true then (match dget (dZ L) (.int q.1) with | some d=>Res.ok d | Option.none=>.stuck) else .stuck)=_
 rw [if_pos dZ_fits,dZ_get,zget_at h m];rfl
theorem dZ_getd:getd 0 (.dict (dZ L)) (.int k)=.ok (.int ((zget L k).getD 0)):=by
 show (if dfits (dZ L) (.int k)=true then Res.ok ((dget (dZ L) (.int k)).getD (.int 0)) else .stuck)=_
 rw [if_pos dZ_fits,dZ_get]
 cases zget L k<;>rfl
theorem dZ_items:items .seq [.dict (dZ L)]=.ok ((ks L).map PV.int):=by
 show (if (dfits (dZ L) (.int 0)||dfits (dZ L) (.tup []))=true then Res.ok ((dZ L).map fun p=>p.1.pv) else .stuck)=_
 rw [dZ_fits,Bool.true_or,if_pos rfl]
 unfold dZ ks
 rw [List.map_map,List.map_map];rfl
theorem ev_get {cf:Nat->List PV->Res PV} {ρ:Slots} {a b:PE} {c:Int} {x y d:PV} (h1:ev cf ρ a=.ok x) (h2:ev cf ρ b=.ok y) (h:getd c x y=.ok d):ev cf ρ (.get a b c)=.ok d:=by rw [vE25,h1,bindK,h2];exact h
theorem acc_len:∀ {L:List (Int×Int)} {k v:Int},(acc L k v).length<=L.length+1
 | [],_,_=>Nat.le_refl _
 | q::L,k,v=>by
  have:=acc_len (L:=L) (k:=k) (v:=v)
  rw [accC];split<;>simp only [List.length_cons]<;>(first | exact y46 | exact y48 this)
theorem accs_len:∀ {qs L:List (Int×Int)},(accs L qs).length<=L.length+qs.length
 | [],L=>Nat.le_refl _
 | q::qs,L=>by
  have h1:=accs_len (qs:=qs) (L:=acc L q.1 q.2)
  have h2:=acc_len (L:=L) (k:=q.1) (v:=q.2)
  show (accs (acc L q.1 q.2) qs).length<=L.length+(qs.length+1)
  exact y47 h1 h2
theorem two_len:(L.flatMap fun q=>[(q.1+2,-q.2),(q.1-2,-q.2)]).length=2*L.length:=by
 induction L with
 | nil=>rfl
 | cons a l ih=>rw [List.flatMap_cons,List.length_append,ih];show 2+2*l.length=2*(l.length+1);exact y49
theorem spr_len:(spr L).length<=2*L.length:=by
 have:=accs_len (L:=[]) (qs:=L.flatMap fun q=>[(q.1+2,-q.2),(q.1-2,-q.2)])
 rw [two_len] at this
 unfold spr
 simpa using this
theorem sprN_len {q c:Int}:∀ {k:Nat},(sprN k [(q,c)]).length<=2 ^ k
 | 0=>Nat.le_refl _
 | k+1=>by
  have h1:=spr_len (L:=sprN k [(q,c)])
  have h2:=sprN_len (q:=q) (c:=c) (k:=k)
  show (spr (sprN k [(q,c)])).length<=2 ^ (k+1)
  rw [Nat.pow_succ];exact yv13 h1 h2
end
section
variable {C:List ((Int×Nat)×Int)} {k:Int×Nat}
theorem dC_fits {l:List Int}:dfits (dC C) (.tup l)=true:=by unfold dfits dC;rw [List.all_map,List.all_eq_true];exact fun q _=>rfl
theorem dC_get:∀ {C:List ((Int×Nat)×Int)},dget (dC C) (kC k)=(cget C k).map PV.int
 | []=>rfl
 | q::C=>by
  show dget ((kC q.1,PV.int q.2)::dC C) (kC k)=_
  rw [cgetC]
  by_cases h:q.1=k
  ·rw [if_pos h,dget_hit (congrArg kC h)];rfl
  ·rw [if_neg h,dget_miss fun e=>h (kC_inj e),dC_get]
theorem dC_has:∀ {C:List ((Int×Nat)×Int)},k∉C.map (·.1)->dhas (dC C) (kC k)=false
 | [],_=>rfl
 | q::C,h=>by
  show (decide (kC q.1=kC k)||dhas (dC C) (kC k))=false
  rw [decide_eq_false (fun e=>h ((kC_inj e:q.1=k) ▸ List.mem_cons_self)),dC_has fun m=>h (List.mem_cons_of_mem _ m)];rfl
theorem dC_put:∀ {C:List ((Int×Nat)×Int)},(C.map (·.1)).Nodup->dput (dC C) (kC k) (.int ((cget C k).getD 0+1))=dC (cadd C k)
 | [],_=>rfl
 | q::C,h=>by
  have h:=List.nodup_cons.1 h
  show dput ((kC q.1,PV.int q.2)::dC C) _ _=_
  rw [cgetC,caddC]
  by_cases e:q.1=k
  ·rw [if_pos e,if_pos e,dput_hit (congrArg kC e) (dC_has (e ▸ h.1))];rfl
  ·rw [if_neg e,if_neg e,dput_miss fun z=>e (kC_inj z),dC_put h.2];rfl
theorem dC_getd:getd 0 (.dict (dC C)) (.tuple [.int k.1,.int (k.2:Nat)])=.ok (.int ((cget C k).getD 0)):=by
 show (if dfits (dC C) (kC k)=true then Res.ok ((dget (dC C) (kC k)).getD (.int 0)) else .stuck)=_
 rw [if_pos (show dfits (dC C) (kC k)=true from dC_fits),dC_get]
 cases cget C k<;>rfl
theorem dC_idx {q:(Int×Nat)×Int} (h:(C.map (·.1)).Nodup) (m:q∈C):getIdx (.dict (dC C)) (.tuple [.int q.1.1,.int (q.1.2:Nat)])=.ok (.int q.2):=by
 show (if dfits (dC C) (kC q.1)=true then (match dget (dC C) (kC q.1) with | some d=>Res.ok d | Option.none=>.stuck) else .stuck)=_
 rw [if_pos (show dfits (dC C) (kC q.1)=true from dC_fits),dC_get,cget_at h m];rfl
theorem dC_items:items .seq [.dict (dC C)]=.ok (C.map fun q=>.tuple [.int q.1.1,.int (q.1.2:Nat)]):=by
 show (if (dfits (dC C) (.int 0)||dfits (dC C) (.tup []))=true then Res.ok ((dC C).map fun p=>p.1.pv) else .stuck)=_
 rw [dC_fits,Bool.or_true,if_pos rfl]
 unfold dC
 rw [List.map_map];rfl
theorem cadd_len:∀ {C:List ((Int×Nat)×Int)} {k:Int×Nat},(cadd C k).length<=C.length+1
 | [],_=>Nat.le_refl _
 | q::C,k=>by
  have:=cadd_len (C:=C) (k:=k)
  rw [caddC];split<;>simp only [List.length_cons]<;>(first | exact y46 | exact y48 this)
end
noncomputable def spρ (L:List (Int×Int)) (F:List (Int×Int)) (u2 u3:Option PV):Slots:=[some (.dict (dZ L)),some (.dict (dZ F)),u2,u3,none,none,none,none,none,none]
noncomputable def spI:List PS:=[(.setItem 1 (.var 3) (.bin .sub (.get (.var 1) (.var 3) 0) (.idx (.var 0) (.var 2))))]
noncomputable def spB:List PS:=[(.for_ (.one 3) .seq [(.tup [(.bin .add (.var 2) (.const (.int 2))),(.bin .sub (.var 2) (.const (.int 2)))])] spI)]
section
variable {cf:Nat->List PV->Res PV} {L F:List (Int×Int)} {u2 u3:Option PV} {q:Int×Int} {k:Int}
theorem sp_in (hL:(ks L).Nodup) (hq:q∈L) (hF:(ks F).Nodup) (hl:F.length < lim):exs cf (spρ L F (some (.int q.1)) (some (.int k))) spI=.ok (.next (spρ L (acc F k (-q.2)) (some (.int q.1)) (some (.int k)))):=by
 refine (exs_n (ρ':=spρ L (acc F k (-q.2)) (some (.int q.1)) (some (.int k))) ((ex_setItem (l:=dZ F) (kk:=.int k) (key:=.int k) (d:=.int ((zget F k).getD 0+-q.2)) rfl ?_ rfl rfl dZ_fits (by unfold dZ;rw [List.length_map];exact hl)).trans ?_)).trans exs_0
 ·exact ev_bin (ev_get rfl rfl dZ_getd) (ev_idx rfl rfl (dZ_idx hL hq)) (by show Res.ok (PV.int ((zget F k).getD 0-q.2))=_;rw [Int.sub_eq_add_neg])
 ·rw [dZ_put hF];rfl
theorem sp_step (hL:(ks L).Nodup) (hq:q∈L) (hF:(ks F).Nodup) (hl:F.length+2 < lim):∃ v3,exs cf (spρ L F (some (.int q.1)) u3) spB=.ok (.next (spρ L (accs F [(q.1+2,-q.2),(q.1-2,-q.2)]) (some (.int q.1)) v3)):=by
 have l1:=acc_len (L:=F) (k:=q.1+2) (v:=-q.2)
 refine ⟨some (.int (q.1-2)),(exs_n (ex_for (xs:=[.tuple [.int (q.1+2),.int (q.1-2)]]) (ds:=[.int (q.1+2),.int (q.1-2)]) rfl rfl ?_)).trans exs_0⟩
 refine (forGo_n (ρ1:=spρ L F (some (.int q.1)) (some (.int (q.1+2)))) rfl (sp_in hL hq hF (by exact y51 hl))).trans ?_
 exact (forGo_n (ρ1:=spρ L (acc F (q.1+2) (-q.2)) (some (.int q.1)) (some (.int (q.1-2)))) rfl (sp_in hL hq (acc_nd hF) (by exact y53 hl l1))).trans rfl
theorem sp_go (hL:(ks L).Nodup):∀ {M F:List (Int×Int)} {u2 u3:Option PV},(∀ q∈M,q∈L)->(ks F).Nodup->F.length+2*M.length < lim->∃ v2 v3,forGo (fun ρ'=>exs cf ρ' spB) (.one 2) ((ks M).map PV.int) (spρ L F u2 u3)=.ok (.next (spρ L (accs F (M.flatMap fun q=>[(q.1+2,-q.2),(q.1-2,-q.2)])) v2 v3))
 | [],F,u2,u3,_,_,_=>⟨u2,u3,rfl⟩
 | q::M,F,u2,u3,h,hF,hl=>by
  rw [List.length_cons] at hl
  obtain ⟨w3,e1⟩:=sp_step (cf:=cf) (u3:=u3) hL (h q List.mem_cons_self) hF (by exact y50 hl)
  have l1:=accs_len (L:=F) (qs:=[(q.1+2,-q.2),(q.1-2,-q.2)])
  obtain ⟨v2,v3,e2⟩:=sp_go hL (M:=M) (F:=accs F [(q.1+2,-q.2),(q.1-2,-q.2)]) (u2:=some (.int q.1)) (u3:=w3) (fun r hr=>h r (List.mem_cons_of_mem _ hr)) (accs_nd hF) (by simp only [List.length_cons,List.length_nil] at l1;exact y52 hl l1)
  refine ⟨v2,v3,(forGo_n (ρ1:=spρ L F (some (.int q.1)) u3) rfl e1).trans (e2.trans ?_)⟩
  rw [List.flatMap_cons]
  unfold accs
  rw [List.foldl_append]
theorem spread {n:Nat} (hL:(ks L).Nodup) (hl:2*L.length < lim):callN f7_all (n+1) 12 [.dict (dZ L)]=.ok (.dict (dZ (spr L))):=by
 rw [c2 (by rfl)]
 generalize callN f7_all n=cf
 refine run2 (o:=.ret _) (ρ:=[some (.dict (dZ L)),none,none,none,none,none,none,none,none,none]) rfl rfl ?_
 refine (exs_n (ρ':=spρ L [] none none) rfl).trans ?_
 obtain ⟨v2,v3,e⟩:=sp_go (cf:=cf) hL (M:=L) (F:=[]) (u2:=none) (u3:=none) (fun _ h=>h) List.nodup_nil (by simpa using hl)
 exact (exs_n (ex_for (xs:=[.dict (dZ L)]) rfl dZ_items e)).trans (exs_r rfl)
end
end Mine.Internal
end
section
namespace Mine.Internal
open PySem
structure Plc (ps:List Int) (n:Nat) (ov un:Nat->Nat):Prop where
 o:∀ i,i < n->ps.idxOf? ((i:Int)+1)=some (ov i)
 u:∀ i,i < n->ps.idxOf? (-((i:Int)+1))=some (un i)
 len:ps.length=2*n
theorem idx_lt {L:List Int} {k:Int} {a:Nat} (h:L.idxOf? k=some a):a < L.length:=by
 rw [List.idxOf?,List.findIdx?_eq_some_iff_getElem] at h
 exact h.1
noncomputable def Jp (m:Nat) (ov un:Nat->Nat) (i:Nat) (b:Bool):List (Nat×Nat):=Jn m (ov i) (un i) b
theorem Jn_lt {m a b:Nat} {s:Bool} (ha:a < m) (hb:b < m):∀ q∈Jn m a b s,q.1 < m/\q.2 < m:=by
 have hm:0 < m:=Nat.lt_of_le_of_lt (Nat.zero_le _) ha
 cases s<;>intro q hq<;>simp only [Jn,Bool.false_eq_true,if_false,if_true,List.mem_cons,List.not_mem_nil,or_false] at hq<;>rcases hq with rfl | rfl<;>first | exact ⟨ha,hb⟩ | exact ⟨ha,Nat.mod_lt _ hm⟩ | exact ⟨hb,Nat.mod_lt _ hm⟩ | exact ⟨Nat.mod_lt _ hm,Nat.mod_lt _ hm⟩
theorem Jn_len {m a b:Nat} {s:Bool}:(Jn m a b s).length=2:=by cases s<;>rfl
theorem jn_lt {ps:List Int} {n:Nat} {ov un:Nat->Nat} (h:Plc ps n ov un) {s:List Bool} (hs:s.length<=n):∀ q∈jn (Jp ps.length ov un) s,q.1 < ps.length/\q.2 < ps.length:=by
 intro q hq
 obtain ⟨r,hr,hq⟩:=List.mem_flatMap.1 hq
 have hi:r.2 < n:=by
  have:=List.snd_lt_of_mem_zipIdx hr
  exact y28 hs this
 exact Jn_lt (idx_lt (h.o _ hi)) (idx_lt (h.u _ hi)) q hq
theorem jn_len {m:Nat} {ov un:Nat->Nat} (s:List Bool):(jn (Jp m ov un) s).length=2*s.length:=by
 have:∀ l:List (Bool×Nat),(l.flatMap fun q=>Jp m ov un q.2 q.1).length=2*l.length:=fun l=>by
  induction l with
  | nil=>rfl
  | cons q l ih=>rw [List.flatMap_cons,List.length_append,ih];show (Jn _ _ _ _).length+_=2*(l.length+1);rw [Jn_len];exact y49
 unfold jn
 rw [this,List.length_zipIdx]
noncomputable def rwI (R:List (Int×List (Nat×Nat))):List PV:=R.map fun r=>.tuple [.int r.1,.list (jI r.2)]
noncomputable def opρ (P T:PV) (R:List (Int×List (Nat×Nat))) (u3 u4 u5 u6:Option PV):Slots:=[some P,some T,some (.list (rwI R)),u3,u4,u5,u6,none,none,none,none,none,none,none,none]
noncomputable def opI:List PS:=[(.append 4 (.tup [(.bin .add (.var 5) (.idx (.var 1) (.var 3))),(.bin .add (.var 6) (.call 9 false [(.var 0),(.var 3),(.const (.bool true))]))])),(.append 4 (.tup [(.bin .sub (.var 5) (.idx (.var 1) (.var 3))),(.bin .add (.var 6) (.call 9 false [(.var 0),(.var 3),(.const (.bool false))]))]))]
noncomputable def opB:List PS:=[(.assign 4 (.lst [])),(.for_ (.many [5,6]) .seq [(.var 2)] opI),(.move 2 4)]
section
variable {cf:Nat->List PV->Res PV} {P T N:PV} {R G:List (Int×List (Nat×Nat))} {u3 u4 u5 u6:Option PV} {p t:Int} {js Jt Jf:List (Nat×Nat)}
theorem jI_len {l:List (Nat×Nat)}:(jI l).length=l.length:=List.length_map ..
theorem op_in (h9t:cf 9 [P,N,.bool true]=.ok (.list (jI Jt))) (h9f:cf 9 [P,N,.bool false]=.ok (.list (jI Jf))) (hT:getIdx T N=.ok (.int t)) (h1:js.length+Jt.length<=1000) (h2:js.length+Jf.length<=1000) (hg:G.length+1 < lim):
  exs cf (opρ P T R (some N) (some (.list (rwI G))) (some (.int p)) (some (.list (jI js)))) opI=.ok (.next (opρ P T R (some N) (some (.list (rwI (G++[(p+t,js++Jt),(p-t,js++Jf)])))) (some (.int p)) (some (.list (jI js))))):=by
 have hi:∀ {u4:Option PV},ev cf (opρ P T R (some N) u4 (some (.int p)) (some (.list (jI js)))) (.idx (.var 1) (.var 3))=.ok (.int t):=ev_idx rfl rfl hT
 have ad:∀ {u4:Option PV} {J:List (Nat×Nat)} {b:Bool},cf 9 [P,N,.bool b]=.ok (.list (jI J))->js.length+J.length<=1000->ev cf (opρ P T R (some N) u4 (some (.int p)) (some (.list (jI js)))) (.bin .add (.var 6) (.call 9 false [(.var 0),(.var 3),(.const (.bool b))]))=.ok (.list (jI (js++J))):=fun h hl=>by
  refine ev_bin (x:=.list (jI js)) rfl (ev_call (xs:=[P,N,.bool _]) rfl h) ?_
  show mkL (jI js++jI _)=_
  unfold mkL
  rw [if_pos (by rw [List.length_append,jI_len,jI_len];unfold lim;exact y54 hl)]
  unfold jI;rw [List.map_append]
 refine (exs_n (ρ':=opρ P T R (some N) (some (.list (rwI (G++[(p+t,js++Jt)])))) (some (.int p)) (some (.list (jI js)))) ((ex_append (l:=rwI G) (d:=.tuple [.int (p+t),.list (jI (js++Jt))]) rfl ?_ (by unfold rwI;rw [List.length_map];exact y56 hg)).trans ?_)).trans ?_
 ·rw [vE3,evsC,ev_bin (d:=.int (p+t)) (x:=.int p) rfl hi rfl,bindK,evsC,ad h9t h1];rfl
 ·unfold rwI;rw [List.map_append];rfl
 refine (exs_n ((ex_append (l:=rwI (G++[(p+t,js++Jt)])) (d:=.tuple [.int (p-t),.list (jI (js++Jf))]) rfl ?_ (by unfold rwI;rw [List.length_map,List.length_append];exact hg)))).trans ?_
 ·rw [vE3,evsC,ev_bin (d:=.int (p-t)) (x:=.int p) rfl hi rfl,bindK,evsC,ad h9f h2];rfl
 ·rw [exs_0,show rwI (G++[(p+t,js++Jt),(p-t,js++Jf)])=rwI (G++[(p+t,js++Jt)])++[.tuple [.int (p-t),.list (jI (js++Jf))]] by unfold rwI;rw [show G++[(p+t,js++Jt),(p-t,js++Jf)]=(G++[(p+t,js++Jt)])++[(p-t,js++Jf)] by rw [List.append_assoc];rfl,List.map_append (l₁:=G++[(p+t,js++Jt)])];rfl]
  rfl
noncomputable def nxt (t:Int) (Jt Jf:List (Nat×Nat)) (R:List (Int×List (Nat×Nat))):List (Int×List (Nat×Nat)):=R.flatMap fun r=>[(r.1+t,r.2++Jt),(r.1-t,r.2++Jf)]
theorem op_go (h9t:cf 9 [P,N,.bool true]=.ok (.list (jI Jt))) (h9f:cf 9 [P,N,.bool false]=.ok (.list (jI Jf))) (hT:getIdx T N=.ok (.int t)) (ht:Jt.length<=2) (hf:Jf.length<=2):∀ {M G:List (Int×List (Nat×Nat))} {u5 u6:Option PV},(∀ r∈M,r.2.length<=900)->G.length+2*M.length < lim ->
  ∃ v5 v6,forGo (fun ρ'=>exs cf ρ' opI) (.many [5,6]) (rwI M) (opρ P T R (some N) (some (.list (rwI G))) u5 u6)=.ok (.next (opρ P T R (some N) (some (.list (rwI (G++nxt t Jt Jf M)))) v5 v6))
 | [],G,u5,u6,_,_=>⟨u5,u6,by rw [show nxt t Jt Jf []=[] from rfl,List.append_nil];rfl⟩
 | r::M,G,u5,u6,h,hl=>by
  rw [List.length_cons] at hl
  have hr:=h r List.mem_cons_self
  have e1:=op_in (cf:=cf) (P:=P) (T:=T) (N:=N) (R:=R) (G:=G) (p:=r.1) (js:=r.2) h9t h9f hT (by exact y55 ht hr) (by exact y55 hf hr) (by exact y58 hl)
  obtain ⟨v5,v6,e2⟩:=op_go h9t h9f hT ht hf (M:=M) (G:=G++[(r.1+t,r.2++Jt),(r.1-t,r.2++Jf)]) (u5:=some (.int r.1)) (u6:=some (.list (jI r.2))) (fun q hq=>h q (List.mem_cons_of_mem _ hq)) (by rw [List.length_append];show G.length+2+2*M.length < lim;exact y60 hl)
  refine ⟨v5,v6,(forGo_n (ρ1:=opρ P T R (some N) (some (.list (rwI G))) (some (.int r.1)) (some (.list (jI r.2)))) rfl e1).trans (e2.trans ?_)⟩
  rw [List.append_assoc];rfl
theorem op_step (h9t:cf 9 [P,N,.bool true]=.ok (.list (jI Jt))) (h9f:cf 9 [P,N,.bool false]=.ok (.list (jI Jf))) (hT:getIdx T N=.ok (.int t)) (ht:Jt.length<=2) (hf:Jf.length<=2) (h:∀ r∈R,r.2.length<=900) (hl:2*R.length < lim):
  ∃ v5 v6,exs cf (opρ P T R (some N) u4 u5 u6) opB=.ok (.next (opρ P T (nxt t Jt Jf R) (some N) none v5 v6)):=by
 obtain ⟨v5,v6,e⟩:=op_go (cf:=cf) (R:=R) h9t h9f hT ht hf (M:=R) (G:=[]) (u5:=u5) (u6:=u6) h (by simpa using hl)
 refine ⟨v5,v6,(exs_n (ρ':=opρ P T R (some N) (some (.list (rwI []))) u5 u6) rfl).trans ((exs_n (ex_for (xs:=[.list (rwI R)]) rfl rfl e)).trans ((exs_n ?_).trans exs_0))⟩
 rfl
end
noncomputable def Rw (t:Nat->Int) (J:Nat->Bool->List (Nat×Nat)) (k:Nat):List (Int×List (Nat×Nat)):=(bsF k).map fun s=>(pw t s,jn J s)
theorem Rw_next {t:Nat->Int} {J:Nat->Bool->List (Nat×Nat)} {k:Nat}:nxt (t k) (J k true) (J k false) (Rw t J k)=Rw t J (k+1):=by
 have:∀ l:List (List Bool),(∀ s∈l,s.length=k)->nxt (t k) (J k true) (J k false) (l.map fun s=>(pw t s,jn J s))=(l.flatMap fun s=>[s++[true],s++[false]]).map fun s=>(pw t s,jn J s):=fun l=>by
  induction l with
  | nil=>intro _;rfl
  | cons s l ih=>
   intro h
   have e:=ih fun q hq=>h q (List.mem_cons_of_mem _ hq)
   have hs:=h s List.mem_cons_self
   rw [List.flatMap_cons,List.map_append,<-e,List.map_cons]
   unfold nxt
   rw [List.flatMap_cons]
   refine congrArg (·++_) ?_
   show [_,_]=[(pw t (s++[true]),jn J (s++[true])),(pw t (s++[false]),jn J (s++[false]))]
   rw [pw_snoc,pw_snoc,jn_snoc,jn_snoc,hs];rfl
 exact this (bsF k) fun s hs=>mem_bsF hs
theorem dT_items {us:List Int}:items .seq [.dict (dT us)]=.ok ((List.range us.length).map fun i:Nat=>.int ((i:Int)+1)):=by
 show (if (dfits (dT us) (.int 0)||dfits (dT us) (.tup []))=true then Res.ok ((dT us).map fun p=>p.1.pv) else .stuck)=_
 rw [dT_fits,Bool.true_or,if_pos rfl]
 unfold dT
 rw [List.map_map,List.range_eq_range',<-List.zipIdx_map_snd,List.map_map];rfl
theorem dT_idx {us:List Int} {i:Nat} (h:i < us.length):getIdx (.dict (dT us)) (.int ((i:Int)+1))=.ok (.int (us.getD i 0)):=by
 show (if dfits (dT us) (.int ((i:Int)+1))=true then (match dget (dT us) (.int ((i:Int)+1)) with | some d=>Res.ok d | Option.none=>.stuck) else .stuck)=_
 rw [if_pos dT_fits,dT_get (List.getElem?_eq_getElem h),List.getD_eq_getElem?_getD,List.getElem?_eq_getElem h];rfl
noncomputable def ofρ (P T W:PV) (u3 u4 u5 u6:Option PV) (C:List ((Int×Nat)×Int)) (u8:Option PV):Slots:=[some P,some T,some W,u3,u4,u5,u6,some (.dict (dC C)),u8,none,none,none,none,none,none]
noncomputable def ofB:List PS:=[(.assign 8 (.tup [(.var 5),(.call 10 false [(.prim .len [(.var 0)]),(.var 6)])])),(.setItem 7 (.var 8) (.bin .add (.get (.var 7) (.var 8) 0) (.const (.int 1))))]
section
variable {cf:Nat->List PV->Res PV} {ps:List Int} {T W:PV} {u3 u4 u5 u6 u8:Option PV}
theorem of_step {C:List ((Int×Nat)×Int)} {p:Int} {l:Nat} {js:List (Nat×Nat)} (h10:cf 10 [.int ps.length,.list (jI js)]=.ok (.int l)) (hC:(C.map (·.1)).Nodup) (hl:C.length < lim):
  exs cf (ofρ (.list (ps.map .int)) T W u3 u4 (some (.int p)) (some (.list (jI js))) C u8) ofB=.ok (.next (ofρ (.list (ps.map .int)) T W u3 u4 (some (.int p)) (some (.list (jI js))) (cadd C (p,l)) (some (.tuple [.int p,.int l])))):=by
 have hl':(ps.map PV.int).length=ps.length:=List.length_map ..
 refine (exs_n (ρ':=ofρ (.list (ps.map .int)) T W u3 u4 (some (.int p)) (some (.list (jI js))) C (some (.tuple [.int p,.int l]))) (ex_assign ?_)).trans ?_
 ·rw [vE3,evsC,show ev cf (ofρ (.list (ps.map .int)) T W u3 u4 (some (.int p)) (some (.list (jI js))) C u8) (.var 5)=.ok (.int p) from rfl,bindK,evsC,ev_call (xs:=[.int ps.length,.list (jI js)]) (by rw [<-hl'];rfl) h10];rfl
 refine (exs_n ((ex_setItem (l:=dC C) (kk:=.tuple [.int p,.int l]) (key:=kC (p,l)) (d:=.int ((cget C (p,l)).getD 0+1)) rfl (ev_bin (y:=.int 1) (ev_get rfl rfl (dC_getd (k:=(p,l)))) rfl rfl) rfl rfl dC_fits (by unfold dC;rw [List.length_map];exact hl)))).trans ?_
 rw [exs_0,dC_put hC];rfl
theorem of_go {R0:List (Int×List (Nat×Nat))} {f:List (Nat×Nat)->Nat} (h10:∀ r∈R0,cf 10 [.int ps.length,.list (jI r.2)]=.ok (.int (f r.2))):∀ {M:List (Int×List (Nat×Nat))} {C:List ((Int×Nat)×Int)} {u5 u6 u8:Option PV},(∀ r∈M,r∈R0)->(C.map (·.1)).Nodup->C.length+M.length < lim ->
  ∃ v5 v6 v8,forGo (fun ρ'=>exs cf ρ' ofB) (.many [5,6]) (rwI M) (ofρ (.list (ps.map .int)) T W u3 u4 u5 u6 C u8)=.ok (.next (ofρ (.list (ps.map .int)) T W u3 u4 v5 v6 ((M.map fun r=>(r.1,f r.2)).foldl cadd C) v8))
 | [],C,u5,u6,u8,_,_,_=>⟨u5,u6,u8,rfl⟩
 | r::M,C,u5,u6,u8,h,hC,hl=>by
  rw [List.length_cons] at hl
  have e1:=of_step (cf:=cf) (ps:=ps) (T:=T) (W:=W) (u3:=u3) (u4:=u4) (u8:=u8) (p:=r.1) (h10 r (h r List.mem_cons_self)) hC (by exact y57 hl)
  have l1:=cadd_len (C:=C) (k:=(r.1,f r.2))
  obtain ⟨v5,v6,v8,e2⟩:=of_go h10 (M:=M) (C:=cadd C (r.1,f r.2)) (u5:=some (.int r.1)) (u6:=some (.list (jI r.2))) (u8:=some (.tuple [.int r.1,.int (f r.2)])) (fun q hq=>h q (List.mem_cons_of_mem _ hq)) (cadd_nd hC) (by exact y59 hl l1)
  exact ⟨v5,v6,v8,(forGo_n (ρ1:=ofρ (.list (ps.map .int)) T W u3 u4 (some (.int r.1)) (some (.list (jI r.2))) C u8) rfl e1).trans e2⟩
end
end Mine.Internal
end
section
namespace Mine.Internal
open PySem
section
variable {ps us:List Int} {n:Nat} {ov un:Nat->Nat}
theorem Rw_small {t:Nat->Int} {m k:Nat} (hk:k<=10):(∀ r∈Rw t (Jp m ov un) k,r.2.length<=900)/\(Rw t (Jp m ov un) k).length<=1024:=by
 refine ⟨fun r hr=>?_,?_⟩
 ·obtain ⟨s,hs,rfl⟩:=List.mem_map.1 hr
  show (jn (Jp m ov un) s).length<=900
  rw [jn_len,mem_bsF hs];exact y61 hk
 ·unfold Rw
  rw [List.length_map,bsF_len]
  exact Nat.pow_le_pow_right (n:=2) (by decide) hk
theorem ob_go {cf:Nat->List PV->Res PV} (hn:n<=10) (hu:us.length=n) (h9:∀ i,i < n->∀ b,cf 9 [.list (ps.map .int),.int ((i:Int)+1),.bool b]=.ok (.list (jI (Jp ps.length ov un i b)))):∀ {c a:Nat} {u3 u5 u6:Option PV},a+c<=n ->
  ∃ v3 v5 v6,forGo (fun ρ'=>exs cf ρ' opB) (.one 3) ((List.range' a c).map fun i:Nat=>.int ((i:Int)+1)) (opρ (.list (ps.map .int)) (.dict (dT us)) (Rw (fun i=>us.getD i 0) (Jp ps.length ov un) a) u3 none u5 u6)=.ok (.next (opρ (.list (ps.map .int)) (.dict (dT us)) (Rw (fun i=>us.getD i 0) (Jp ps.length ov un) (a+c)) v3 none v5 v6))
 | 0,a,u3,u5,u6,_=>⟨u3,u5,u6,rfl⟩
 | c+1,a,u3,u5,u6,h=>by
  have sm:=Rw_small (t:=fun i=>us.getD i 0) (m:=ps.length) (ov:=ov) (un:=un) (k:=a) (by exact y62 hn h)
  obtain ⟨w5,w6,e1⟩:=op_step (cf:=cf) (P:=.list (ps.map .int)) (T:=.dict (dT us)) (N:=.int ((a:Int)+1)) (R:=Rw (fun i=>us.getD i 0) (Jp ps.length ov un) a) (u4:=none) (u5:=u5) (u6:=u6) (h9 a (by exact y64 h) true) (h9 a (by exact y64 h) false) (dT_idx (by exact y66 hu h)) (Nat.le_of_eq Jn_len) (Nat.le_of_eq Jn_len) sm.1 (by unfold lim;exact y68 sm.2)
  rw [Rw_next (t:=fun i=>us.getD i 0)] at e1
  obtain ⟨v3,v5,v6,e2⟩:=ob_go hn hu h9 (c:=c) (a:=a+1) (u3:=some (.int ((a:Int)+1))) (u5:=w5) (u6:=w6) (by exact y69 h)
  refine ⟨v3,v5,v6,?_⟩
  rw [show a+(c+1)=a+1+c by exact y23]
  exact (forGo_n (ρ1:=opρ (.list (ps.map .int)) (.dict (dT us)) (Rw (fun i=>us.getD i 0) (Jp ps.length ov un) a) (some (.int ((a:Int)+1))) none u5 u6) rfl e1).trans e2
noncomputable def sgns (m:Nat) (ov un:Nat->Nat) (us:List Int) (n:Nat):List (Int×Nat):=(bsF n).map fun s=>(pw (fun i=>us.getD i 0) s,dcnt (mgs (rg m) (jn (Jp m ov un) s)))
theorem openings {k:Nat} (h:Plc ps n ov un) (h0:0 < n) (hn:n<=10) (hu:us.length=n):callN f7_all (k+3) 11 [.list (ps.map .int),.dict (dT us)]=.ok (.dict (dC ((sgns ps.length ov un us n).foldl cadd []))):=by
 have hm:0 < ps.length:=by rw [h.len];exact y63 h0
 have h9:∀ i,i < n->∀ b,callN f7_all (k+2) 9 [.list (ps.map .int),.int ((i:Int)+1),.bool b]=.ok (.list (jI (Jp ps.length ov un i b))):=fun i hi b=>joins_of (h.o i hi) (h.u i hi) hm
 have h10:∀ r∈Rw (fun i=>us.getD i 0) (Jp ps.length ov un) n,callN f7_all (k+2) 10 [.int ps.length,.list (jI r.2)]=.ok (.int (dcnt (mgs (rg ps.length) r.2))):=fun r hr=>by
  obtain ⟨s,hs,rfl⟩:=List.mem_map.1 hr
  exact loops_of (by rw [h.len];exact y65 hn) (jn_lt h (Nat.le_of_eq (mem_bsF hs)))
 rw [c2 (by rfl)]
 generalize callN f7_all (k+2)=cf at *
 refine run2 (o:=.ret _) (ρ:=[some (.list (ps.map .int)),some (.dict (dT us)),none,none,none,none,none,none,none,none,none,none,none,none,none]) rfl rfl ?_
 refine (exs_n (ρ':=opρ (.list (ps.map .int)) (.dict (dT us)) (Rw (fun i=>us.getD i 0) (Jp ps.length ov un) 0) none none none none) rfl).trans ?_
 obtain ⟨v3,v5,v6,e1⟩:=ob_go (cf:=cf) hn hu h9 (c:=n) (a:=0) (u3:=none) (u5:=none) (u6:=none) (by exact y67)
 rw [Nat.zero_add] at e1
 refine (exs_n (ex_for (xs:=[.dict (dT us)]) rfl (by rw [dT_items,hu,List.range_eq_range']) e1)).trans ?_
 have sm:=Rw_small (t:=fun i=>us.getD i 0) (m:=ps.length) (ov:=ov) (un:=un) (k:=n) hn
 obtain ⟨w5,w6,w8,e2⟩:=of_go (cf:=cf) (ps:=ps) (T:=.dict (dT us)) (W:=.list (rwI (Rw (fun i=>us.getD i 0) (Jp ps.length ov un) n))) (u3:=v3) (u4:=none) (f:=fun js=>dcnt (mgs (rg ps.length) js)) h10 (M:=Rw (fun i=>us.getD i 0) (Jp ps.length ov un) n) (C:=[]) (u5:=v5) (u6:=v6) (u8:=none) (fun _ h=>h) List.nodup_nil (by unfold lim;simp only [List.length_nil];exact y70 sm.2)
 refine (exs_n (ρ':=ofρ (.list (ps.map .int)) (.dict (dT us)) (.list (rwI (Rw (fun i=>us.getD i 0) (Jp ps.length ov un) n))) v3 none v5 v6 [] none) rfl).trans ?_
 refine (exs_n (ex_for (xs:=[.list (rwI (Rw (fun i=>us.getD i 0) (Jp ps.length ov un) n))]) rfl rfl e2)).trans (exs_r ?_)
 have:(Rw (fun i=>us.getD i 0) (Jp ps.length ov un) n).map (fun r=>(r.1,dcnt (mgs (rg ps.length) r.2)))=sgns ps.length ov un us n:=by unfold Rw sgns;rw [List.map_map];rfl
 rw [this];rfl
end
theorem need_drawing {k:Nat} {ps us:List Int} (h:Dr ps us):callN f7_all (k+5) 7 [dI (ps,us)]=.ok .none:=by
 rw [c2 (by rfl)]
 have e:=is_dr (k:=k) h
 generalize callN f7_all (k+4)=cf at e
 refine run2 (o:=.next [some (dI (ps,us)),none,none,none,none,none,none]) (ρ:=[some (dI (ps,us)),none,none,none,none,none,none]) rfl rfl ?_
 exact (exs_n (ex_skip (ev_not (b:=true) (ev_call (xs:=[dI (ps,us)]) rfl e)))).trans exs_0
end Mine.Internal
end
section
namespace Mine.Internal
open PySem
theorem comp_filter {α:Type} {elt:Slots->Res PV} {cond:Slots->Res Bool} {i:Nat} {a b:α->PV} {g:α->Bool}:∀ {os:List α} {ρ:Slots},(∀ x∈os,cond (ρ.set i (some (a x)))=.ok (g x)/\(g x=true->elt (ρ.set i (some (a x)))=.ok (b x)))->compGo elt cond (.one i) (os.map a) ρ=.ok ((os.filter g).map b)
 | [],_,_=>rfl
 | x::os,ρ,h=>by
  have hx:=h x List.mem_cons_self
  have st:∀ d,(ρ.set i (some (a x))).set i (some d)=ρ.set i (some d):=fun d=>List.set_set ..
  have ih:=comp_filter (os:=os) (ρ:=ρ.set i (some (a x))) (a:=a) (b:=b) (g:=g) (elt:=elt) (cond:=cond) fun y hy=>by rw [st];exact h y (List.mem_cons_of_mem _ hy)
  rw [List.map_cons,compC,tgt1,bindK,hx.1,bindK]
  cases q:g x with
  | true=>rw [List.filter_cons_of_pos q,if_pos rfl,hx.2 q,bindK,ih];rfl
  | false=>rw [List.filter_cons_of_neg (by rw [q];exact Bool.false_ne_true),if_neg Bool.false_ne_true,ih]
noncomputable def rcρ (D S:PV) (F:List (Int×Int)) (u3 u4 u5 u6 u7:Option PV):Slots:=[some D,some (.dict (dZ F)),some S,u3,u4,u5,u6,u7,none,none,none,none,none,none,none,none]
noncomputable def rcS:List PS:=[(.assign 5 (.call 12 false [(.var 5)]))]
noncomputable def rcA:List PS:=[(.setItem 1 (.var 7) (.bin .add (.get (.var 1) (.var 7) 0) (.idx (.var 5) (.var 7))))]
noncomputable def rcB:List PS:=[(.assign 5 (.dct1 (.var 3) (.idx (.var 2) (.tup [(.var 3),(.var 4)])))),(.for_ (.one 6) .range1 [(.bin .sub (.var 4) (.const (.int 1)))] rcS),(.for_ (.one 7) .seq [(.var 5)] rcA)]
section
variable {cf:Nat->List PV->Res PV} {D S:PV} {F L:List (Int×Int)} {u3 u4 u5 u6 u7:Option PV}
theorem rc_acc (hL:(ks L).Nodup):∀ {M F:List (Int×Int)} {u7:Option PV},(∀ q∈M,q∈L)->(ks F).Nodup->F.length+M.length < lim->∃ v7,forGo (fun ρ'=>exs cf ρ' rcA) (.one 7) ((ks M).map PV.int) (rcρ D S F u3 u4 (some (.dict (dZ L))) u6 u7)=.ok (.next (rcρ D S (accs F M) u3 u4 (some (.dict (dZ L))) u6 v7))
 | [],F,u7,_,_,_=>⟨u7,rfl⟩
 | q::M,F,u7,h,hF,hl=>by
  rw [List.length_cons] at hl
  have l1:=acc_len (L:=F) (k:=q.1) (v:=q.2)
  obtain ⟨v7,e⟩:=rc_acc hL (M:=M) (F:=acc F q.1 q.2) (u7:=some (.int q.1)) (fun r hr=>h r (List.mem_cons_of_mem _ hr)) (acc_nd hF) (by exact y59 hl l1)
  refine ⟨v7,(forGo_n (ρ1:=rcρ D S F u3 u4 (some (.dict (dZ L))) u6 (some (.int q.1))) (ρ2:=rcρ D S (acc F q.1 q.2) u3 u4 (some (.dict (dZ L))) u6 (some (.int q.1))) rfl ?_).trans e⟩
  refine (exs_n ((ex_setItem (l:=dZ F) (kk:=.int q.1) (key:=.int q.1) (d:=.int ((zget F q.1).getD 0+q.2)) rfl (ev_bin (ev_get rfl rfl dZ_getd) (ev_idx rfl rfl (dZ_idx hL (h q List.mem_cons_self))) rfl) rfl rfl dZ_fits (by unfold dZ;rw [List.length_map];exact y57 hl)).trans ?_)).trans exs_0
  rw [dZ_put hF];rfl
theorem rc_spread {q c:Int} (h12:∀ L:List (Int×Int),(ks L).Nodup->2*L.length < lim->cf 12 [.dict (dZ L)]=.ok (.dict (dZ (spr L)))):∀ {c' a:Nat} {u6:Option PV},a+c'<=20->∃ v6,forGo (fun ρ'=>exs cf ρ' rcS) (.one 6) ((List.range' a c').map fun k:Nat=>PV.int (k:Int)) (rcρ D S F u3 u4 (some (.dict (dZ (sprN a [(q,c)])))) u6 u7)=.ok (.next (rcρ D S F u3 u4 (some (.dict (dZ (sprN (a+c') [(q,c)])))) v6 u7))
 | 0,a,u6,_=>⟨u6,rfl⟩
 | c'+1,a,u6,h=>by
  obtain ⟨v6,e⟩:=rc_spread h12 (q:=q) (c:=c) (c':=c') (a:=a+1) (u6:=some (.int a)) (by exact y71 h)
  have l1:=sprN_len (q:=q) (c:=c) (k:=a)
  have l2:2 ^ a<=2 ^ 20:=Nat.pow_le_pow_right (by decide) (by exact y72 h)
  have e1:=h12 (sprN a [(q,c)]) (sprN_nd (L:=[(q,c)]) (List.nodup_cons.2 ⟨List.not_mem_nil,List.nodup_nil⟩)) (by unfold lim;exact Nat.lt_of_le_of_lt (Nat.mul_le_mul_left 2 (Nat.le_trans l1 l2)) (by decide))
  refine ⟨v6,?_⟩
  rw [show a+(c'+1)=a+1+c' by exact y23]
  exact (forGo_n (ρ1:=rcρ D S F u3 u4 (some (.dict (dZ (sprN a [(q,c)])))) (some (.int a)) u7) rfl ((exs_n (ex_assign (ev_call (xs:=[.dict (dZ (sprN a [(q,c)]))]) rfl e1))).trans exs_0)).trans e
theorem rc_step {C:List ((Int×Nat)×Int)} {q:(Int×Nat)×Int} (h12:∀ L:List (Int×Int),(ks L).Nodup->2*L.length < lim->cf 12 [.dict (dZ L)]=.ok (.dict (dZ (spr L)))) (hC:(C.map (·.1)).Nodup) (hq:q∈C) (h1:1<=q.1.2) (h2:q.1.2<=20) (hF:(ks F).Nodup) (hl:F.length < 64):
  ∃ v5 v6 v7,exs cf (rcρ D (.dict (dC C)) F (some (.int q.1.1)) (some (.int (q.1.2:Nat))) u5 u6 u7) rcB=.ok (.next (rcρ D (.dict (dC C)) (accs F (sprN (q.1.2-1) [(q.1.1,q.2)])) (some (.int q.1.1)) (some (.int (q.1.2:Nat))) v5 v6 v7)):=by
 obtain ⟨v6,e1⟩:=rc_spread (cf:=cf) (D:=D) (S:=.dict (dC C)) (F:=F) (u3:=some (.int q.1.1)) (u4:=some (.int (q.1.2:Nat))) (u7:=u7) (q:=q.1.1) (c:=q.2) h12 (c':=q.1.2-1) (a:=0) (u6:=u6) (by exact y73 h2)
 rw [Nat.zero_add] at e1
 have l1:=sprN_len (q:=q.1.1) (c:=q.2) (k:=q.1.2-1)
 have l2:2 ^ (q.1.2-1)<=2 ^ 20:=Nat.pow_le_pow_right (by decide) (by exact y77 h2)
 have nd:=sprN_nd (L:=[(q.1.1,q.2)]) (List.nodup_cons.2 ⟨List.not_mem_nil,List.nodup_nil⟩) (k:=q.1.2-1)
 obtain ⟨v7,e2⟩:=rc_acc (cf:=cf) (D:=D) (S:=.dict (dC C)) (u3:=some (.int q.1.1)) (u4:=some (.int (q.1.2:Nat))) (u6:=v6) nd (M:=sprN (q.1.2-1) [(q.1.1,q.2)]) (F:=F) (u7:=u7) (fun _ h=>h) hF (by unfold lim;exact Nat.lt_of_le_of_lt (Nat.add_le_add (Nat.le_of_lt hl) (Nat.le_trans l1 l2)) (by decide))
 refine ⟨_,v6,v7,(exs_n (ρ':=rcρ D (.dict (dC C)) F (some (.int q.1.1)) (some (.int (q.1.2:Nat))) (some (.dict (dZ (sprN 0 [(q.1.1,q.2)])))) u6 u7) (ex_assign ?_)).trans ((exs_n (ex_for (xs:=[.int ((q.1.2-1:Nat):Int)]) ?_ (by rw [items_r1 (by exact y81 h2),List.range_eq_range']) e1)).trans ((exs_n (ex_for (xs:=[.dict (dZ (sprN (q.1.2-1) [(q.1.1,q.2)]))]) rfl dZ_items e2)).trans exs_0))⟩
 ·rw [vE26,show ev cf (rcρ D (.dict (dC C)) F (some (.int q.1.1)) (some (.int (q.1.2:Nat))) u5 u6 u7) (.var 3)=.ok (.int q.1.1) from rfl,bindK,ev_idx (x:=.dict (dC C)) (y:=.tuple [.int q.1.1,.int (q.1.2:Nat)]) rfl rfl (dC_idx hC hq)];rfl
 ·show Res.ok [PV.int ((q.1.2:Int)-1)]=_
  rw [show ((q.1.2-1:Nat):Int)=(q.1.2:Int)-1 by exact y82 h1]
noncomputable def Bd (n:Nat) (F:List (Int×Int)):Prop:=(ks F).Nodup/\∀ p∈ks F,-(5*n:Int)<=p/\p<=5*n/\(p-n) % 2=0
theorem rc_go {n:Nat} {C:List ((Int×Nat)×Int)} (h12:∀ L:List (Int×Int),(ks L).Nodup->2*L.length < lim->cf 12 [.dict (dZ L)]=.ok (.dict (dZ (spr L)))) (hn:n<=10) (hC:(C.map (·.1)).Nodup) (hc:∀ q∈C,1<=q.1.2/\q.1.2<=2*n/\-(n:Int)<=q.1.1/\q.1.1<=n/\(q.1.1-n) % 2=0):
  ∀ {M:List ((Int×Nat)×Int)} {F:List (Int×Int)} {u3 u4 u5 u6 u7:Option PV},(∀ q∈M,q∈C)->Bd n F->Bd n (M.foldl (fun F q=>accs F (sprN (q.1.2-1) [(q.1.1,q.2)])) F) /\
   ∃ v3 v4 v5 v6 v7,forGo (fun ρ'=>exs cf ρ' rcB) (.many [3,4]) (M.map fun q=>.tuple [.int q.1.1,.int (q.1.2:Nat)]) (rcρ D (.dict (dC C)) F u3 u4 u5 u6 u7)=.ok (.next (rcρ D (.dict (dC C)) (M.foldl (fun F q=>accs F (sprN (q.1.2-1) [(q.1.1,q.2)])) F) v3 v4 v5 v6 v7))
 | [],F,u3,u4,u5,u6,u7,_,hF=>⟨hF,u3,u4,u5,u6,u7,rfl⟩
 | q::M,F,u3,u4,u5,u6,u7,h,hF=>by
  have hq:=hc q (h q List.mem_cons_self)
  have l1:=few hF.1 hn hF.2
  obtain ⟨w5,w6,w7,e1⟩:=rc_step (cf:=cf) (D:=D) (u5:=u5) (u6:=u6) (u7:=u7) h12 hC (h q List.mem_cons_self) hq.1 (by exact y80 hn hq.2.1) hF.1 l1
  have hF':Bd n (accs F (sprN (q.1.2-1) [(q.1.1,q.2)])):=⟨accs_nd hF.1,fun p hp=>by
   rcases mem_accs hp with hp | hp
   ·exact hF.2 p hp
   ·have:=mem_sprN hp;exact yv18 hq.2.1 hq.2.2.1 hq.2.2.2.1 hq.2.2.2.2 this.1 this.2.1 this.2.2⟩
  obtain ⟨b,v3,v4,v5,v6,v7,e2⟩:=rc_go h12 hn hC hc (M:=M) (F:=accs F (sprN (q.1.2-1) [(q.1.1,q.2)])) (u3:=some (.int q.1.1)) (u4:=some (.int (q.1.2:Nat))) (u5:=w5) (u6:=w6) (u7:=w7) (fun r hr=>h r (List.mem_cons_of_mem _ hr)) hF'
  exact ⟨b,v3,v4,v5,v6,v7,(forGo_n (ρ1:=rcρ D (.dict (dC C)) F (some (.int q.1.1)) (some (.int (q.1.2:Nat))) u5 u6 u7) rfl e1).trans e2⟩
end
theorem sort_at {F:List (Int×Int)} (h:F.length < 64):sort1 (.dict (dZ F))=.ok (.list ((srt (ks F)).map .int)):=by
 show (if (dfits (dZ F) (.int 0)&&decide ((dZ F).length < 64))=true then Res.ok (PV.list ((srt ((dZ F).map fun p=>p.1.i)).map PV.int)) else .stuck)=_
 rw [dZ_fits,decide_eq_true (by unfold dZ;rw [List.length_map];exact h),Bool.true_and,if_pos rfl,show (dZ F).map (fun p=>p.1.i)=ks F by unfold dZ ks;rw [List.map_map];rfl]
theorem dZ_at {F:List (Int×Int)} {p:Int} (hF:(ks F).Nodup) (h:p∈ks F):getIdx (.dict (dZ F)) (.int p)=.ok (.int (cf F p)):=by
 obtain ⟨v,e⟩:=zget_mem h
 have:=zget_cf (p:=p) hF
 rw [e] at this
 show (if dfits (dZ F) (.int p)=true then (match dget (dZ F) (.int p) with | some d=>Res.ok d | Option.none=>.stuck) else .stuck)=_
 rw [if_pos dZ_fits,dZ_get,e,<-this];rfl
noncomputable def res (F:List (Int×Int)) (w:Int):PV:=.tuple ((out F).map fun p=>.tuple [.int (p-3*w),.int ((1-2*Int.fmod w 2)*cf F p)])
theorem big_of {i:Int} (h:i.natAbs<=4000000000000000000):big i=false:=by unfold big;exact decide_eq_false (by exact yv14 h)
theorem fmod2 (w:Int):Int.fmod w 2=0\/Int.fmod w 2=1:=by
 have:=fmod_range w (m:=2) (by decide);exact wa11 this.1 this.2
theorem res_comp {cf':Nat->List PV->Res PV} {ρ:Slots} {F:List (Int×Int)} {w:Int} {fd p3 vl:PE} {b:Nat} (hF:(ks F).Nodup) (hl:F.length < 64) (hs:ev cf' ρ fd=.ok (.dict (dZ F)))
  (hc:∀ p,p∈ks F->evAnd cf' ((clr (.one b) ρ).set b (some (.int p))) [(.cmp .ne vl (.const (.int 0)))]=.ok (decide (cf F p≠0)))
  (he:∀ p,p∈ks F->ev cf' ((clr (.one b) ρ).set b (some (.int p))) p3=.ok (.tuple [.int (p-3*w),.int ((1-2*Int.fmod w 2)*cf F p)])):
  ev cf' ρ (.prim .tupleOf [(.comp p3 (.one b) .seq [(.prim .sorted [fd])] [(.cmp .ne vl (.const (.int 0)))])])=.ok (res F w):=by
 have e0:evs cf' ρ [(.prim .sorted [fd])]=.ok [.list ((srt (ks F)).map .int)]:=by
  rw [evsC,vE20,evsC,hs,bindK,evsN,bindK,bindK,show prim .sorted [.dict (dZ F)]=sort1 (.dict (dZ F)) from rfl,sort_at hl];rfl
 have e1:=ev_comp (cf:=cf') (ρ:=ρ) (elt:=p3) (t:=.one b) (k:=.seq) (src:=[(.prim .sorted [fd])]) (conds:=[(.cmp .ne vl (.const (.int 0)))]) (xs:=[.list ((srt (ks F)).map .int)]) (ds:=(srt (ks F)).map .int) (ys:=(out F).map fun p=>.tuple [.int (p-3*w),.int ((1-2*Int.fmod w 2)*cf F p)]) e0 rfl
  (comp_filter (a:=PV.int) (g:=fun p=>decide (cf F p≠0)) fun p hp=>⟨hc p (srt_perm.mem_iff.1 hp),fun _=>he p (srt_perm.mem_iff.1 hp)⟩)
  (by
   have h1:(out F).length<=(srt (ks F)).length:=List.length_filter_le ..
   rw [srt_perm.length_eq] at h1
   unfold ks at h1
   rw [List.length_map] at h1 ⊢
   unfold lim;exact y78 hl h1)
 rw [vE20,evsC,e1];rfl
end Mine.Internal
end
section
namespace Mine.Internal
open PySem
section
variable {ps us:List Int} {n k:Nat} {ov un:Nat->Nat}
theorem sumI_le (h:∀ t∈us,t=1\/t=-1):(sumI us).natAbs<=us.length:=by
 have:∀ j,j<=us.length->(PySem.preSum (fun i=>us.getD i 0) j).natAbs<=j:=fun j=>by
  induction j with
  | zero=>intro _;exact Nat.le_refl _
  | succ j ih=>
   intro hj
   have h1:=ih (by exact y16 hj)
   have h2:=h _ (List.getElem_mem (h:=hj))
   show (PySem.preSum (fun i=>us.getD i 0) j+us.getD j 0).natAbs<=j+1
   rw [List.getD_eq_getElem?_getD,List.getElem?_eq_getElem hj]
   show (_+us[j]).natAbs<=_
   exact Nat.le_trans (Int.natAbs_add_le _ _) (Nat.add_le_add h1 (by rcases h2 with h | h<;>rw [h]<;>decide))
 exact this _ (Nat.le_refl _)
theorem sgns_ok (h:Plc ps n ov un) (h0:0 < n) (hu:us.length=n) (hus:∀ t∈us,t=1\/t=-1):∀ q∈sgns ps.length ov un us n,1<=q.2/\q.2<=2*n/\-(n:Int)<=q.1/\q.1<=n/\(q.1-n) % 2=0:=fun q hq=>by
 obtain ⟨s,hs,rfl⟩:=List.mem_map.1 hq
 have hl:=mem_bsF hs
 have h1:=pw_le (t:=fun i=>us.getD i 0) (s:=s) fun i hi=>by
  have hi':i < us.length:=by exact y83 hu hl hi
  show us.getD i 0=1\/us.getD i 0=-1
  rw [List.getD_eq_getElem?_getD,List.getElem?_eq_getElem hi']
  exact hus _ (List.getElem_mem (h:=hi'))
 rw [hl] at h1
 have h2:dcnt (mgs (rg ps.length) (jn (Jp ps.length ov un) s))<=2*n:=by
  have:=dcnt_le (g:=mgs (rg ps.length) (jn (Jp ps.length ov un) s))
  rw [mgs_len,rg_len,h.len] at this;rw [h.len];exact this
 have h3:0 < dcnt (mgs (rg ps.length) (jn (Jp ps.length ov un) s)):=dcnt_pos (by rw [mgs_len,rg_len,h.len];exact y63 h0)
 exact ⟨h3,h2,h1⟩
noncomputable def tot (m:Nat) (ov un:Nat->Nat) (us:List Int) (n:Nat) (p:Int):Int:=sm (wt p) (sgns m ov un us n)
theorem tot_le (h:Plc ps n ov un) (h0:0 < n) (hn:n<=10) (hu:us.length=n) (hus:∀ t∈us,t=1\/t=-1) {p:Int}:(tot ps.length ov un us n p).natAbs<=2000000000:=by
 have h1:=sm_le (g:=wt p) (b:=2 ^ 20) (l:=sgns ps.length ov un us n) fun q hq=>Nat.le_trans SN_le (Nat.pow_le_pow_right (by decide) (by have:=sgns_ok h h0 hu hus q hq;exact y85 hn this.2.1))
 have h2:(sgns ps.length ov un us n).length<=1024:=by
  unfold sgns
  rw [List.length_map,bsF_len]
  exact Nat.pow_le_pow_right (n:=2) (by decide) hn
 have h3:(sgns ps.length ov un us n).length*2 ^ 20<=1024*2 ^ 20:=Nat.mul_le_mul_right _ h2
 unfold tot
 exact Nat.le_trans h1 (Nat.le_trans h3 (by decide))
theorem ex_expr {cf:Nat->List PV->Res PV} {ρ:Slots} {e:PE} (h:ev cf ρ e=.ok .none):ex cf ρ (.expr e)=.ok (.next ρ):=by rw [xE12,h];rfl
theorem len_1 {cf:Nat->List PV->Res PV} {ρ:Slots} (h:slot ρ 0=.ok (dI (ps,us))):ev cf ρ (.prim .len [(.idx (.var 0) (.const (.int 1)))])=.ok (.int us.length):=by
 have:ev cf ρ (.idx (.var 0) (.const (.int 1)))=.ok (tI us):=ev_idx (x:=dI (ps,us)) h rfl rfl
 rw [vE20,evsC,this,bindK,evsN]
 show Res.ok (PV.int ((us.map PV.int).length:Nat))=_
 rw [List.length_map]
theorem gt_10 {m:Nat}:cmpop .gt (.int (m:Nat)) (.int 10)=.ok (decide (10 < m)):=by
 show Res.ok (decide ((m:Int) > 10))=_
 congr 1
 rw [Bool.eq_iff_iff,decide_eq_true_iff,decide_eq_true_iff];exact yv19
theorem eq_0 {m:Nat}:cmpop .eq (.int (m:Nat)) (.int 0)=.ok (decide (m=0)):=by
 show Res.ok ((m:Int)==0)=_
 congr 1
 rw [Bool.eq_iff_iff,beq_iff_eq,decide_eq_true_iff];exact yv20
noncomputable def rc0 (d:PV):Slots:=[some d,none,none,none,none,none,none,none,none,none,none,none,none,none,none,none]
theorem reckoned_0 (hd:Dr [] []):callN f7_all (k+6) 13 [dI ([],[])]=.ok (.tuple [.tuple [.int 0,.int 1]]):=by
 have e7:=need_drawing (k:=k) hd
 rw [c2 (by rfl)]
 generalize callN f7_all (k+5)=cf at *
 refine run2 (o:=.ret _) (ρ:=rc0 (dI ([],[]))) rfl rfl ?_
 refine (exs_n (ex_expr (ev_call (xs:=[dI ([],[])]) rfl e7))).trans ?_
 refine (exs_n (ex_skip (ev_cmp (len_1 (us:=[]) rfl) rfl gt_10))).trans ?_
 exact exs_r ((ex_ite (ev_cmp (len_1 (us:=[]) rfl) rfl eq_0)).trans rfl)
theorem reckoned (h:Plc ps n ov un) (h0:0 < n) (hn:n<=10) (hu:us.length=n) (hus:∀ t∈us,t=1\/t=-1) (hd:Dr ps us):
  ∃ F,Bd n F/\(∀ p,cf F p=tot ps.length ov un us n p)/\callN f7_all (k+6) 13 [dI (ps,us)]=.ok (res F (sumI us)):=by
 have e7:=need_drawing (k:=k) hd
 have e4:=turns_of (n:=k+4) (p:=(ps,us)) (by show us.length < 1000;exact y87 hn hu)
 have e11:=openings (k:=k+2) h h0 hn hu
 have h12:∀ L:List (Int×Int),(ks L).Nodup->2*L.length < lim->callN f7_all (k+5) 12 [.dict (dZ L)]=.ok (.dict (dZ (spr L))):=fun L h1 h2=>spread (n:=k+4) h1 h2
 have fc:=foldl_cadd (l:=sgns ps.length ov un us n) (C:=[]) List.nodup_nil
 have cfF:∀ p,cf (gath ((sgns ps.length ov un us n).foldl cadd [])) p=tot ps.length ov un us n p:=fun p=>cf_gath
 generalize hC:(sgns ps.length ov un us n).foldl cadd []=C at *
 have hc:∀ q∈C,1<=q.1.2/\q.1.2<=2*n/\-(n:Int)<=q.1.1/\q.1.1<=n/\(q.1.1-n) % 2=0:=fun q hq=>sgns_ok h h0 hu hus q.1 ((fc.2 q.1 (List.mem_map_of_mem hq)).resolve_left List.not_mem_nil)
 rw [c2 (by rfl)]
 generalize callN f7_all (k+5)=g at *
 obtain ⟨bF,v3,v4,v5,v6,v7,e6⟩:=rc_go (cf:=g) (D:=dI (ps,us)) h12 hn fc.1 hc (M:=C) (F:=[]) (u3:=none) (u4:=none) (u5:=none) (u6:=none) (u7:=none) (fun _ h=>h) ⟨List.nodup_nil,fun p hp=>absurd hp List.not_mem_nil⟩
 change Bd n (gath C) at bF
 refine ⟨gath C,bF,cfF,?_⟩
 have hlF:(gath C).length < 64:=few bF.1 hn bF.2
 have tl:∀ p,(cf (gath C) p).natAbs<=2000000000:=fun p=>by rw [cfF];exact tot_le h h0 hn hu hus
 have wl:=sumI_le hus
 generalize hw:sumI us=w at *
 change forGo _ _ _ _=.ok (.next (rcρ (dI (ps,us)) (.dict (dC C)) (gath C) v3 v4 v5 v6 v7)) at e6
 generalize gath C=F at *
 refine run2 (o:=.ret _) (ρ:=rc0 (dI (ps,us))) rfl rfl ?_
 refine (exs_n (ex_expr (ev_call (xs:=[dI (ps,us)]) rfl e7))).trans ?_
 refine (exs_n (ex_skip ((ev_cmp (len_1 rfl) rfl gt_10).trans (by rw [decide_eq_false (by exact y88 hn hu)])))).trans ?_
 refine (exs_n (ex_skip ((ev_cmp (len_1 rfl) rfl eq_0).trans (by rw [decide_eq_false (by exact y89 h0 hu)])))).trans ?_
 refine (exs_n (ρ':=[some (dI (ps,us)),some (.dict []),none,none,none,none,none,none,none,none,none,none,none,none,none,none]) rfl).trans ?_
 refine (exs_n (ρ':=rcρ (dI (ps,us)) (.dict (dC C)) [] none none none none none) (ex_assign (ev_call (xs:=[.list (ps.map .int),.dict (dT us)]) ?_ e11))).trans ?_
 ·rw [evsC,show ev g [some (dI (ps,us)),some (.dict []),none,none,none,none,none,none,none,none,none,none,none,none,none,none] (.prim .listOf [(.idx (.var 0) (.const (.int 0)))])=.ok (.list (ps.map .int)) from rfl,bindK,evsC,ev_call (xs:=[dI (ps,us)]) rfl e4];rfl
 refine (exs_n (ex_for (xs:=[.dict (dC C)]) rfl dC_items e6)).trans ?_
 refine (exs_n (ρ':=[some (dI (ps,us)),some (.dict (dZ F)),some (.dict (dC C)),v3,v4,v5,v6,v7,some (.int w),none,none,none,none,none,none,none]) (ex_assign (e:=.prim .sum [(.idx (.var 0) (.const (.int 1)))]) (d:=.int w) ?_)).trans ?_
 ·show sum1 (.tuple (us.map .int))=_
  show (match PV.ints? (us.map .int) with | some is=>Res.ok (PV.int (sumI is)) | Option.none=>.stuck)=_
  rw [ints_map];exact congrArg (fun z=>Res.ok (PV.int z)) hw
 have f2:=fmod2 w
 refine (exs_n (ρ':=[some (dI (ps,us)),some (.dict (dZ F)),some (.dict (dC C)),v3,v4,v5,v6,v7,some (.int w),some (.int (1-2*Int.fmod w 2)),none,none,none,none,none,none]) (ex_assign (ev_bin (x:=.int 1) (y:=.int (2*Int.fmod w 2)) rfl (ev_mul rfl rfl (by decide) (big_of (by exact yv23 f2))) rfl))).trans ?_
 refine exs_r (ex_ret (res_comp bF.1 hlF rfl (fun p hp=>?_) fun p hp=>?_))
 ·refine (evAnd_b (ev_cmp (ev_idx (x:=.dict (dZ F)) (y:=.int p) rfl rfl (dZ_at bF.1 hp)) rfl eq_int)).trans ?_
  cases decide (cf F p≠0)<;>rfl
 ·rw [vE3,evsC,ev_bin (x:=.int p) (y:=.int (3*w)) (d:=.int (p-3*w)) rfl (ev_mul rfl rfl (by decide) (big_of (by exact yv24 hn hu wl))) rfl,bindK,evsC,ev_mul (x:=1-2*Int.fmod w 2) (y:=cf F p) rfl (ev_idx (x:=.dict (dZ F)) (y:=.int p) rfl rfl (dZ_at bF.1 hp)) (big_of (by exact yv25 f2)) (big_of (by have:=tl p;exact yv26 this))];rfl
theorem reckoned_x (hu:10 < us.length) (hd:Dr ps us):callN f7_all (k+6) 1013 [dI (ps,us)]=.ok .none:=by
 have e7:=need_drawing (k:=k) hd
 show runR f7_reckoned (callN f7_all (k+5)) [dI (ps,us)]=_
 generalize callN f7_all (k+5)=g at *
 show exr g (rc0 (dI (ps,us))) f7_reckoned.body=_
 show (ev g (rc0 (dI (ps,us))) (.call 7 false [(.var 0)])).bind (nil1 ((ev g (rc0 (dI (ps,us))) (.cmp .gt (.prim .len [(.idx (.var 0) (.const (.int 1)))]) (.const (.int 10)))).bind fun x=>match x with | .bool b=>if b then Res.ok PV.none else _ | _=>.stuck))=_
 rw [ev_call (xs:=[dI (ps,us)]) rfl e7,bindK,nil1K,ev_cmp (len_1 rfl) rfl gt_10,decide_eq_true hu];rfl
end
end Mine.Internal
end
section
namespace Mine.Internal
open PySem
noncomputable def dS (s:List Bool):List (Key×PV):=s.zipIdx.map fun q=>(Key.int ((q.2:Int)+1),PV.bool q.1)
theorem dS_fits {s:List Bool} {i:Int}:dfits (dS s) (.int i)=true:=by unfold dfits dS;rw [List.all_map,List.all_eq_true];exact fun q _=>rfl
theorem dS_go {b:Bool}:∀ {s:List Bool} {k j:Nat},s[k]?=some b->dget ((s.zipIdx j).map fun q=>(Key.int ((q.2:Int)+1),PV.bool q.1)) (.int (((j+k:Nat):Int)+1))=some (.bool b)
 | [],_,_,h=>by cases h
 | a::s,0,j,h=>by
  rw [List.zipIdx_cons,List.map_cons]
  show dget ((Key.int ((j:Int)+1),PV.bool a)::_) (.int ((j:Int)+1))=_
  rw [dget_hit rfl]
  exact congrArg (fun z=>some (PV.bool z)) (Option.some.inj h)
 | a::s,k+1,j,h=>by
  rw [List.zipIdx_cons,List.map_cons,dget_miss (fun e=>by have:=kint_inj e;exact (y90 this).elim),show j+(k+1)=j+1+k by exact y23]
  exact dS_go h
theorem dS_idx {s:List Bool} {i:Nat} {b:Bool} (h:s[i]?=some b):getIdx (.dict (dS s)) (.int ((i:Int)+1))=.ok (.bool b):=by
 show (if dfits (dS s) (.int ((i:Int)+1))=true then (match dget (dS s) (.int ((i:Int)+1)) with | some d=>Res.ok d | Option.none=>.stuck) else .stuck)=_
 have:=dS_go (j:=0) h
 rw [Nat.zero_add] at this
 rw [if_pos dS_fits,show dget (dS s) (.int ((i:Int)+1))=some (.bool b) from this]
theorem dS_items {s:List Bool}:items .seq [.dict (dS s)]=.ok ((List.range s.length).map fun i:Nat=>.int ((i:Int)+1)):=by
 show (if (dfits (dS s) (.int 0)||dfits (dS s) (.tup []))=true then Res.ok ((dS s).map fun p=>p.1.pv) else .stuck)=_
 rw [dS_fits,Bool.true_or,if_pos rfl]
 unfold dS
 rw [List.map_map,List.range_eq_range',<-List.zipIdx_map_snd,List.map_map];rfl
theorem dS_len {s:List Bool}:(dS s).length=s.length:=by unfold dS;rw [List.length_map,List.length_zipIdx]
theorem dS_has {s:List Bool} {i:Nat} (h:s.length<=i):dhas (dS s) (.int ((i:Int)+1))=false:=by
 unfold dhas dS
 rw [List.any_map,List.any_eq_false]
 intro q hq
 have:=List.snd_lt_of_mem_zipIdx hq
 show ¬ decide (Key.int ((q.2:Int)+1)=Key.int ((i:Int)+1))=true
 exact fun e=>wa12 h this (kint_inj (of_decide_eq_true e))
theorem dS_put {s:List Bool} {b:Bool}:dput (dS s) (.int ((s.length:Int)+1)) (.bool b)=dS (s++[b]):=by
 unfold dput
 rw [dS_has (Nat.le_refl _),if_neg Bool.false_ne_true]
 unfold dS
 rw [List.zipIdx_append,List.map_append,Nat.zero_add];rfl
noncomputable def llρ (P S:PV) (m:Nat) (h:List Int) (u4 u5 u6 u7 u8 u9 u10:Option PV):Slots:=[some P,some S,some (.int m),some (.list (h.map .int)),u4,u5,u6,u7,u8,u9,u10,none,none,none,none,none,none]
noncomputable def llI:List PS:=[(.assign 10 (.idx (.var 3) (.var 8))),(.assign 3 (.comp (.ite (.cmp .eq (.var 11) (.var 10)) (.idx (.var 3) (.var 9)) (.var 11)) (.one 11) .seq [(.var 3)] []))]
noncomputable def llB:List PS:=[(.assign 5 (.index (.var 0) (.var 4))),(.assign 6 (.index (.var 0) (.neg (.var 4)))),(.assign 7 (.lst [(.tup [(.var 5),(.var 6)]),(.tup [(.bin .mod (.bin .add (.var 5) (.const (.int 1))) (.var 2)),(.bin .mod (.bin .add (.var 6) (.const (.int 1))) (.var 2))])])),(.ite (.idx (.var 1) (.var 4)) [(.assign 7 (.lst [(.tup [(.var 5),(.bin .mod (.bin .add (.var 6) (.const (.int 1))) (.var 2))]),(.tup [(.var 6),(.bin .mod (.bin .add (.var 5) (.const (.int 1))) (.var 2))])]))] []),(.for_ (.many [8,9]) .seq [(.var 7)] llI)]
section
variable {cf:Nat->List PV->Res PV} {P S:PV} {m:Nat} {h:List Int} {a b:Nat} {u4 u5 u6 u7 u8 u9 u10:Option PV}
theorem ll_in (ha:a < h.length) (hb:b < h.length) (hl:h.length<=1000):
  exs cf (llρ P S m h u4 u5 u6 u7 (some (.int a)) (some (.int b)) u10) llI=.ok (.next (llρ P S m (mh h a b) u4 u5 u6 u7 (some (.int a)) (some (.int b)) (some (.int (h.getD a 0))))):=by
 refine (exs_n (ρ':=llρ P S m h u4 u5 u6 u7 (some (.int a)) (some (.int b)) (some (.int (h.getD a 0)))) (ex_assign (ev_idx rfl rfl (getIdx_at ha)))).trans ?_
 refine (exs_n (ex_assign (d:=.list ((mh h a b).map .int)) ?_)).trans exs_0
 refine ev_comp (xs:=[.list (h.map .int)]) (ds:=h.map .int) rfl rfl ?_ (by rw [List.length_map,mh_len];unfold lim;exact y8 hl)
 unfold mh
 rw [List.map_map]
 refine comp_map2 (a:=PV.int) (b:=fun z=>.int (if z=h.getD a 0 then h.getD b 0 else z)) fun z _=>⟨rfl,?_⟩
 show (if (z==h.getD a 0)=true then getIdx (.list (h.map .int)) (.int (b:Nat)) else Res.ok (PV.int z))=_
 by_cases e:z=h.getD a 0
 ·rw [if_pos (beq_iff_eq.2 e),if_pos e,getIdx_at hb]
 ·rw [if_neg (fun q=>e (beq_iff_eq.1 q)),if_neg e]
theorem ll_pairs:∀ {js:List (Nat×Nat)} {h:List Int} {u8 u9 u10:Option PV},(∀ q∈js,q.1 < h.length/\q.2 < h.length)->h.length<=1000->∃ v8 v9 v10,forGo (fun ρ'=>exs cf ρ' llI) (.many [8,9]) (jI js) (llρ P S m h u4 u5 u6 u7 u8 u9 u10)=.ok (.next (llρ P S m (mhs h js) u4 u5 u6 u7 v8 v9 v10))
 | [],_,u8,u9,u10,_,_=>⟨u8,u9,u10,rfl⟩
 | q::js,h,u8,u9,u10,hq,hl=>by
  obtain ⟨v8,v9,v10,e⟩:=ll_pairs (js:=js) (h:=mh h q.1 q.2) (u8:=some (.int q.1)) (u9:=some (.int q.2)) (u10:=some (.int (h.getD q.1 0))) (fun r hr=>by rw [mh_len];exact hq r (List.mem_cons_of_mem _ hr)) (by rw [mh_len];exact hl)
  exact ⟨v8,v9,v10,(forGo_n (ρ1:=llρ P S m h u4 u5 u6 u7 (some (.int q.1)) (some (.int q.2)) u10) rfl (ll_in (hq q List.mem_cons_self).1 (hq q List.mem_cons_self).2 hl)).trans e⟩
theorem ll_step {ps:List Int} {s:List Bool} {i:Nat} {c:Bool} (h1:ps.idxOf? ((i:Int)+1)=some a) (h2:ps.idxOf? (-((i:Int)+1))=some b) (hc:s[i]?=some c) (hm:ps.length<=1000) (hh:h.length=ps.length):
  ∃ v5 v6 v7 v8 v9 v10,exs cf (llρ (tI ps) (.dict (dS s)) ps.length h (some (.int ((i:Int)+1))) u5 u6 u7 u8 u9 u10) llB=.ok (.next (llρ (tI ps) (.dict (dS s)) ps.length (mhs h (Jn ps.length a b c)) (some (.int ((i:Int)+1))) v5 v6 v7 v8 v9 v10)):=by
 have ha:=idx_lt h1
 have hb:=idx_lt h2
 have hp:0 < ps.length:=Nat.lt_of_le_of_lt (Nat.zero_le _) ha
 have lists:∀ {u7:Option PV} (c:Bool),ev cf (llρ (tI ps) (.dict (dS s)) ps.length h (some (.int ((i:Int)+1))) (some (.int a)) (some (.int b)) u7 u8 u9 u10) (if c then (.lst [(.tup [(.var 5),(.bin .mod (.bin .add (.var 6) (.const (.int 1))) (.var 2))]),(.tup [(.var 6),(.bin .mod (.bin .add (.var 5) (.const (.int 1))) (.var 2))])]) else (.lst [(.tup [(.var 5),(.var 6)]),(.tup [(.bin .mod (.bin .add (.var 5) (.const (.int 1))) (.var 2)),(.bin .mod (.bin .add (.var 6) (.const (.int 1))) (.var 2))])]))=.ok (.list (jI (Jn ps.length a b c))):=fun {u7} c=>by
  have m5:ev cf (llρ (tI ps) (.dict (dS s)) ps.length h (some (.int ((i:Int)+1))) (some (.int a)) (some (.int b)) u7 u8 u9 u10) (.bin .mod (.bin .add (.var 5) (.const (.int 1))) (.var 2))=.ok (.int ((a+1) % ps.length:Nat)):=ev_bin (x:=.int ((a:Int)+1)) rfl rfl (mod_nat hp)
  have m6:ev cf (llρ (tI ps) (.dict (dS s)) ps.length h (some (.int ((i:Int)+1))) (some (.int a)) (some (.int b)) u7 u8 u9 u10) (.bin .mod (.bin .add (.var 6) (.const (.int 1))) (.var 2))=.ok (.int ((b+1) % ps.length:Nat)):=ev_bin (x:=.int ((b:Int)+1)) rfl rfl (mod_nat hp)
  cases c with
  | true=>
   rw [if_pos rfl,vE4,evsC,vE3,evsC,show ev cf _ (.var 5)=.ok (.int a) from rfl,bindK,evsC,m6,bindK,evsN,bindK,bindK,bindK,show mkT [PV.int a,PV.int ((b+1) % ps.length:Nat)]=.ok (.tuple [PV.int a,PV.int ((b+1) % ps.length:Nat)]) from rfl,bindK,evsC,vE3,evsC,show ev cf _ (.var 6)=.ok (.int b) from rfl,bindK,evsC,m5];rfl
  | false=>
   rw [if_neg Bool.false_ne_true,vE4,evsC,show ev cf _ (.tup [(.var 5),(.var 6)])=.ok (.tuple [.int a,.int b]) from rfl,bindK,evsC,vE3,evsC,m5,bindK,evsC,m6];rfl
 obtain ⟨v8,v9,v10,e⟩:=ll_pairs (cf:=cf) (P:=tI ps) (S:=.dict (dS s)) (m:=ps.length) (u4:=some (.int ((i:Int)+1))) (u5:=some (.int a)) (u6:=some (.int b)) (u7:=some (.list (jI (Jn ps.length a b c)))) (js:=Jn ps.length a b c) (h:=h) (u8:=u8) (u9:=u9) (u10:=u10) (by rw [hh];exact Jn_lt ha hb) (by exact y92 hm hh)
 refine ⟨_,_,_,v8,v9,v10,(exs_n (ρ':=llρ (tI ps) (.dict (dS s)) ps.length h (some (.int ((i:Int)+1))) (some (.int a)) u6 u7 u8 u9 u10) (ex_assign (ev_index (x:=tI ps) (y:=.int ((i:Int)+1)) (d:=.int a) rfl rfl (indexIn_at h1)))).trans ((exs_n (ρ':=llρ (tI ps) (.dict (dS s)) ps.length h (some (.int ((i:Int)+1))) (some (.int a)) (some (.int b)) u7 u8 u9 u10) (ex_assign (ev_index (x:=tI ps) (y:=.int (-((i:Int)+1))) (d:=.int b) rfl rfl (indexIn_at h2)))).trans ((exs_n (ρ':=llρ (tI ps) (.dict (dS s)) ps.length h (some (.int ((i:Int)+1))) (some (.int a)) (some (.int b)) (some (.list (jI (Jn ps.length a b false)))) u8 u9 u10) (ex_assign (lists false))).trans ((exs_n (ρ':=llρ (tI ps) (.dict (dS s)) ps.length h (some (.int ((i:Int)+1))) (some (.int a)) (some (.int b)) (some (.list (jI (Jn ps.length a b c)))) u8 u9 u10) ?_).trans ((exs_n (ex_for (xs:=[.list (jI (Jn ps.length a b c))]) rfl rfl e)).trans exs_0))))⟩
 rw [ex_ite (t:=c) (ev_idx (x:=.dict (dS s)) (y:=.int ((i:Int)+1)) rfl rfl (dS_idx hc))]
 cases c with
 | true=>exact (if_pos rfl).trans ((exs_n (ex_assign (lists true))).trans exs_0)
 | false=>exact (if_neg Bool.false_ne_true).trans exs_0
end
theorem mhs_app {g:List Int} {l m:List (Nat×Nat)}:mhs g (l++m)=mhs (mhs g l) m:=List.foldl_append ..
theorem ll_go {cf:Nat->List PV->Res PV} {ps:List Int} {n:Nat} {ov un:Nat->Nat} (hP:Plc ps n ov un) (hn:n<=10) {s:List Bool} (hs:s.length=n):∀ {c a:Nat} {u4 u5 u6 u7 u8 u9 u10:Option PV},a+c<=n ->
  ∃ v4 v5 v6 v7 v8 v9 v10,forGo (fun ρ'=>exs cf ρ' llB) (.one 4) ((List.range' a c).map fun i:Nat=>.int ((i:Int)+1)) (llρ (tI ps) (.dict (dS s)) ps.length (mhs (rg ps.length) (jn (Jp ps.length ov un) (s.take a))) u4 u5 u6 u7 u8 u9 u10)=.ok (.next (llρ (tI ps) (.dict (dS s)) ps.length (mhs (rg ps.length) (jn (Jp ps.length ov un) (s.take (a+c)))) v4 v5 v6 v7 v8 v9 v10))
 | 0,a,u4,u5,u6,u7,u8,u9,u10,_=>⟨u4,u5,u6,u7,u8,u9,u10,rfl⟩
 | c+1,a,u4,u5,u6,u7,u8,u9,u10,h=>by
  have ha:a < s.length:=by exact y66 hs h
  obtain ⟨w5,w6,w7,w8,w9,w10,e1⟩:=ll_step (cf:=cf) (u5:=u5) (u6:=u6) (u7:=u7) (u8:=u8) (u9:=u9) (u10:=u10) (h:=mhs (rg ps.length) (jn (Jp ps.length ov un) (s.take a))) (hP.o a (by exact y64 h)) (hP.u a (by exact y64 h)) (List.getElem?_eq_getElem ha) (by rw [hP.len];exact y84 hn) (by rw [mhs_len,rg_len])
  obtain ⟨v4,v5,v6,v7,v8,v9,v10,e2⟩:=ll_go hP hn hs (c:=c) (a:=a+1) (u4:=some (.int ((a:Int)+1))) (u5:=w5) (u6:=w6) (u7:=w7) (u8:=w8) (u9:=w9) (u10:=w10) (by exact y69 h)
  have t1:jn (Jp ps.length ov un) (s.take (a+1))=jn (Jp ps.length ov un) (s.take a)++Jn ps.length (ov a) (un a) s[a]:=by
   rw [List.take_add_one,List.getElem?_eq_getElem ha]
   show jn _ (s.take a++[s[a]])=_
   rw [jn_snoc,List.length_take,Nat.min_eq_left (by exact y93 hs h)];rfl
  rw [<-mhs_app,<-t1] at e1
  refine ⟨v4,v5,v6,v7,v8,v9,v10,?_⟩
  rw [show a+(c+1)=a+1+c by exact y23]
  exact (forGo_n (ρ1:=llρ (tI ps) (.dict (dS s)) ps.length (mhs (rg ps.length) (jn (Jp ps.length ov un) (s.take a))) (some (.int ((a:Int)+1))) u5 u6 u7 u8 u9 u10) rfl e1).trans e2
theorem law_loops {ps:List Int} {n k:Nat} {ov un:Nat->Nat} (hP:Plc ps n ov un) (hn:n<=10) {s:List Bool} (hs:s.length=n):callN f7_all (k+1) 21 [tI ps,.dict (dS s)]=.ok (.int (dcnt (mhs (rg ps.length) (jn (Jp ps.length ov un) s)))):=by
 rw [c2 (by rfl)]
 generalize callN f7_all k=cf
 have hl:(ps.map PV.int).length=ps.length:=List.length_map ..
 refine run2 (o:=.ret _) (ρ:=[some (tI ps),some (.dict (dS s)),none,none,none,none,none,none,none,none,none,none,none,none,none,none,none]) rfl rfl ?_
 refine (exs_n (ρ':=[some (tI ps),some (.dict (dS s)),some (.int ps.length),none,none,none,none,none,none,none,none,none,none,none,none,none,none]) (by rw [<-hl];rfl)).trans ?_
 refine (exs_n (ρ':=llρ (tI ps) (.dict (dS s)) ps.length (rg ps.length) none none none none none none none) (ex_assign (ev_rg (by rw [hP.len];exact y84 hn) rfl))).trans ?_
 obtain ⟨v4,v5,v6,v7,v8,v9,v10,e⟩:=ll_go (cf:=cf) hP hn hs (c:=n) (a:=0) (u4:=none) (u5:=none) (u6:=none) (u7:=none) (u8:=none) (u9:=none) (u10:=none) (by exact y67)
 rw [Nat.zero_add,<-hs,List.take_length] at e
 refine (exs_n (ex_for (xs:=[.dict (dS s)]) rfl (by rw [dS_items,List.range_eq_range']) e)).trans (exs_r (ex_ret ?_))
 rw [vE20,evsC,show ev cf (llρ (tI ps) (.dict (dS s)) ps.length (mhs (rg ps.length) (jn (Jp ps.length ov un) s)) v4 v5 v6 v7 v8 v9 v10) (.var 3)=.ok (.list ((mhs (rg ps.length) (jn (Jp ps.length ov un) s)).map .int)) from rfl,bindK,evsN,bindK,bindK]
 exact set_at (by rw [mhs_len,rg_len,hP.len];exact y65 hn)
end Mine.Internal
end
section
namespace Mine.Internal
open PySem
noncomputable def bI (s:List Bool):PV:=.list (s.map .bool)
noncomputable def lrρ (ps us:List Int) (F:List (Int×Int)) (B:List (List Bool)) (u5 u6 u7 u8 u9 u10 u11 u12:Option PV):Slots:=[some (dI (ps,us)),some (tI ps),some (tI us),some (.dict (dZ F)),some (.list (B.map bI)),u5,u6,u7,u8,u9,u10,u11,u12,none,none,none,none,none,none,none]
noncomputable def lr1:List PS:=[(.assign 4 (.bin .add (.comp (.bin .add (.var 14) (.lst [(.const (.bool true))])) (.one 14) .seq [(.var 4)] []) (.comp (.bin .add (.var 14) (.lst [(.const (.bool false))])) (.one 14) .seq [(.var 4)] [])))]
noncomputable def lr2:List PS:=[(.setItem 7 (.bin .add (.var 5) (.const (.int 1))) (.idx (.var 6) (.var 5))),(.assign 8 (.bin .add (.var 8) (.idx (.lst [(.neg (.idx (.var 2) (.var 5))),(.idx (.var 2) (.var 5))]) (.prim .intOf [(.idx (.var 6) (.var 5))]))))]
noncomputable def lr3:List PS:=[(.assign 12 (.bin .add (.bin .sub (.var 8) (.bin .mul (.const (.int 2)) (.var 9))) (.bin .mul (.const (.int 4)) (.var 11)))),(.setItem 3 (.var 12) (.bin .add (.get (.var 3) (.var 12) 0) (.var 10))),(.assign 10 (.bin .fdiv (.bin .mul (.var 10) (.bin .sub (.var 9) (.var 11))) (.bin .add (.var 11) (.const (.int 1)))))]
noncomputable def lrB:List PS:=[(.assign 7 .dct0),(.assign 8 (.const (.int 0))),(.for_ (.one 5) .range1 [(.prim .len [(.var 2)])] lr2),(.assign 9 (.bin .sub (.call 21 true [(.var 1),(.var 7)]) (.const (.int 1)))),(.assign 10 (.idx (.lst [(.const (.int 1)),(.neg (.const (.int 1)))]) (.bin .mod (.var 9) (.const (.int 2))))),(.for_ (.one 11) .range1 [(.bin .add (.var 9) (.const (.int 1)))] lr3)]
section
variable {cf':Nat->List PV->Res PV} {ps us:List Int} {F:List (Int×Int)} {B:List (List Bool)} {u5 u6 u7 u8 u9 u10 u11 u12:Option PV}
theorem bsL_small {n:Nat} (h:n<=10):(bsL n).length<=1024:=by rw [bsL_len];exact Nat.pow_le_pow_right (n:=2) (by decide) h
theorem lr_comp {b:Bool} (h:B.length<=1024) (hb:∀ s∈B,s.length<=100):ev cf' (lrρ ps us F B u5 u6 u7 u8 u9 u10 u11 u12) (.comp (.bin .add (.var 14) (.lst [(.const (.bool b))])) (.one 14) .seq [(.var 4)] [])=.ok (.list ((B.map fun s=>s++[b]).map bI)):=by
 refine ev_comp (xs:=[.list (B.map bI)]) (ds:=B.map bI) rfl rfl ?_ (by rw [List.length_map,List.length_map];unfold lim;exact y94 h)
 rw [List.map_map]
 refine comp_map2 (a:=bI) (b:=fun s=>bI (s++[b])) fun s hs=>⟨rfl,?_⟩
 refine ev_bin (x:=bI s) (y:=.list [.bool b]) rfl rfl ?_
 show mkL (s.map PV.bool++[.bool b])=_
 unfold mkL bI
 rw [if_pos (by rw [List.length_append,List.length_map];show s.length+1<=lim;have:=hb s hs;unfold lim;exact y100 this),List.map_append];rfl
theorem lr_states {n:Nat} (hn:n<=10):∀ {c a:Nat} {u5:Option PV},a+c<=n->∃ v5,forGo (fun ρ'=>exs cf' ρ' lr1) (.one 5) ((List.range' a c).map fun k:Nat=>PV.int (k:Int)) (lrρ ps us F (bsL a) u5 u6 u7 u8 u9 u10 u11 u12)=.ok (.next (lrρ ps us F (bsL (a+c)) v5 u6 u7 u8 u9 u10 u11 u12))
 | 0,a,u5,_=>⟨u5,rfl⟩
 | c+1,a,u5,h=>by
  obtain ⟨v5,e⟩:=lr_states hn (c:=c) (a:=a+1) (u5:=some (.int a)) (by exact y69 h)
  have l1:=bsL_small (n:=a) (by exact y62 hn h)
  have l2:∀ s∈bsL a,s.length<=100:=fun s hs=>by rw [mem_bsL hs];exact y95 hn h
  refine ⟨v5,?_⟩
  rw [show a+(c+1)=a+1+c by exact y23]
  refine (forGo_n (ρ1:=lrρ ps us F (bsL a) (some (.int a)) u6 u7 u8 u9 u10 u11 u12) rfl ((exs_n (ex_assign (ev_bin (lr_comp l1 l2) (lr_comp l1 l2) (d:=.list ((bsL (a+1)).map bI)) ?_))).trans exs_0)).trans e
  show mkL ((bsL a).map (fun s=>s++[true]) |>.map bI |>.append ((bsL a).map (fun s=>s++[false]) |>.map bI))=_
  unfold mkL
  show (if ((((bsL a).map fun s=>s++[true]).map bI)++(((bsL a).map fun s=>s++[false]).map bI)).length<=lim then Res.ok (PV.list ((((bsL a).map fun s=>s++[true]).map bI)++(((bsL a).map fun s=>s++[false]).map bI))) else .stuck)=_
  rw [if_pos (by rw [List.length_append,List.length_map,List.length_map,List.length_map,List.length_map];unfold lim;exact y97 l1),<-List.map_append];rfl
theorem ev_neg {cf:Nat->List PV->Res PV} {ρ:Slots} {e:PE} {i:Int} (h:ev cf ρ e=.ok (.int i)):ev cf ρ (.neg e)=.ok (.int (-i)):=by rw [vE7,h];rfl
theorem getT_at {g:List Int} {a:Nat} (h:a < g.length):getIdx (tI g) (.int a)=.ok (.int (g.getD a 0)):=by
 show getIdx (.tuple (g.map .int)) _=_
 rw [getIdxT,if_pos (Int.natCast_nonneg _),Int.toNat_natCast,List.getElem?_map,List.getElem?_eq_getElem h,List.getD_eq_getElem?_getD,List.getElem?_eq_getElem h];rfl
theorem getB_at {s:List Bool} {a:Nat} (h:a < s.length):getIdx (bI s) (.int a)=.ok (.bool s[a]):=by
 show getIdx (.list (s.map .bool)) _=_
 rw [getIdxL,if_pos (Int.natCast_nonneg _),Int.toNat_natCast,List.getElem?_map,List.getElem?_eq_getElem h];rfl
theorem lr_power {n:Nat} {s:List Bool} (hn:n<=10) (hs:s.length=n) (hu:us.length=n):∀ {c a:Nat} {u5:Option PV},a+c<=n ->
  ∃ v5,forGo (fun ρ'=>exs cf' ρ' lr2) (.one 5) ((List.range' a c).map fun k:Nat=>PV.int (k:Int)) (lrρ ps us F B u5 (some (bI s)) (some (.dict (dS (s.take a)))) (some (.int (pw (fun i=>us.getD i 0) (s.take a)))) u9 u10 u11 u12)=.ok (.next (lrρ ps us F B v5 (some (bI s)) (some (.dict (dS (s.take (a+c))))) (some (.int (pw (fun i=>us.getD i 0) (s.take (a+c))))) u9 u10 u11 u12))
 | 0,a,u5,_=>⟨u5,rfl⟩
 | c+1,a,u5,h=>by
  obtain ⟨v5,e⟩:=lr_power hn hs hu (c:=c) (a:=a+1) (u5:=some (.int a)) (by exact y69 h)
  have ha:a < s.length:=by exact y66 hs h
  have tk:s.take (a+1)=s.take a++[s[a]]:=by rw [List.take_add_one,List.getElem?_eq_getElem ha];rfl
  have tl:(s.take a).length=a:=by rw [List.length_take,Nat.min_eq_left (by exact y93 hs h)]
  refine ⟨v5,?_⟩
  rw [show a+(c+1)=a+1+c by exact y23]
  refine (forGo_n (ρ1:=lrρ ps us F B (some (.int a)) (some (bI s)) (some (.dict (dS (s.take a)))) (some (.int (pw (fun i=>us.getD i 0) (s.take a)))) u9 u10 u11 u12) (ρ2:=lrρ ps us F B (some (.int a)) (some (bI s)) (some (.dict (dS (s.take (a+1))))) (some (.int (pw (fun i=>us.getD i 0) (s.take (a+1))))) u9 u10 u11 u12) rfl ?_).trans e
  refine (exs_n (ρ':=lrρ ps us F B (some (.int a)) (some (bI s)) (some (.dict (dS (s.take (a+1))))) (some (.int (pw (fun i=>us.getD i 0) (s.take a)))) u9 u10 u11 u12) ((ex_setItem (l:=dS (s.take a)) (kk:=.int ((a:Int)+1)) (key:=.int ((a:Int)+1)) (d:=.bool s[a]) rfl (ev_idx rfl rfl (getB_at ha)) rfl rfl dS_fits (by rw [dS_len,tl];unfold lim;exact y99 hn h)).trans ?_)).trans ?_
  ·have:=dS_put (s:=s.take a) (b:=s[a])
   rw [tl] at this
   rw [this,<-tk];rfl
  refine (exs_n (ex_assign (d:=.int (pw (fun i=>us.getD i 0) (s.take (a+1)))) ?_)).trans exs_0
  have e1:ev cf' (lrρ ps us F B (some (.int a)) (some (bI s)) (some (.dict (dS (s.take (a+1))))) (some (.int (pw (fun i=>us.getD i 0) (s.take a)))) u9 u10 u11 u12) (.idx (.var 2) (.var 5))=.ok (.int (us.getD a 0)):=ev_idx (x:=tI us) (y:=.int a) rfl rfl (getT_at (by exact y66 hu h))
  have e2:ev cf' (lrρ ps us F B (some (.int a)) (some (bI s)) (some (.dict (dS (s.take (a+1))))) (some (.int (pw (fun i=>us.getD i 0) (s.take a)))) u9 u10 u11 u12) (.prim .intOf [(.idx (.var 6) (.var 5))])=.ok (.int (if s[a] then 1 else 0)):=by
   rw [vE20,evsC,ev_idx (x:=bI s) (y:=.int a) rfl rfl (getB_at ha)];rfl
  refine ev_bin (x:=.int (pw (fun i=>us.getD i 0) (s.take a))) (y:=.int (if s[a] then us.getD a 0 else -us.getD a 0)) rfl (ev_idx (x:=.list [.int (-us.getD a 0),.int (us.getD a 0)]) ?_ e2 ?_) ?_
  ·rw [vE4,evsC,ev_neg e1,bindK,evsC,e1];rfl
  ·cases s[a]<;>rfl
  ·rw [tk,pw_snoc,tl];rfl
theorem lr_nums {q:Int} {L:Nat} (hL:L < 20) (hq:q.natAbs<=1000):∀ {c a:Nat} {F:List (Int×Int)} {u11 u12:Option PV},a+c<=L+1->(ks F).Nodup->F.length+c < lim ->
  ∃ v10 v11 v12,forGo (fun ρ'=>exs cf' ρ' lr3) (.one 11) ((List.range' a c).map fun k:Nat=>PV.int (k:Int)) (lrρ ps us F B u5 u6 u7 (some (.int q)) (some (.int L)) (some (.int (num L a))) u11 u12)=.ok (.next (lrρ ps us (accs F ((List.range' a c).map fun k:Nat=>(q-2*L+4*(k:Int),num L k))) B u5 u6 u7 (some (.int q)) (some (.int L)) v10 v11 v12))
 | 0,a,F,u11,u12,_,_,_=>⟨_,u11,u12,rfl⟩
 | c+1,a,F,u11,u12,h,hF,hl=>by
  have l1:=acc_len (L:=F) (k:=q-2*L+4*(a:Int)) (v:=num L a)
  obtain ⟨v10,v11,v12,e⟩:=lr_nums hL hq (c:=c) (a:=a+1) (F:=acc F (q-2*L+4*(a:Int)) (num L a)) (u11:=some (.int a)) (u12:=some (.int (q-2*L+4*(a:Int)))) (by exact y96 h) (acc_nd hF) (by exact y59 hl l1)
  have nl:=num_le L hL a (by exact y98 hL h)
  refine ⟨v10,v11,v12,(forGo_n (ρ1:=lrρ ps us F B u5 u6 u7 (some (.int q)) (some (.int L)) (some (.int (num L a))) (some (.int a)) u12) (ρ2:=lrρ ps us (acc F (q-2*L+4*(a:Int)) (num L a)) B u5 u6 u7 (some (.int q)) (some (.int L)) (some (.int (num L (a+1)))) (some (.int a)) (some (.int (q-2*L+4*(a:Int))))) rfl ?_).trans e⟩
  refine (exs_n (ρ':=lrρ ps us F B u5 u6 u7 (some (.int q)) (some (.int L)) (some (.int (num L a))) (some (.int a)) (some (.int (q-2*L+4*(a:Int))))) (ex_assign (ev_bin (x:=.int (q-2*L)) (y:=.int (4*(a:Int))) (ev_bin (x:=.int q) (y:=.int (2*(L:Int))) rfl (ev_mul rfl rfl (by decide) (big_of (by exact yv27 hL))) rfl) (ev_mul rfl rfl (by decide) (big_of (by exact yv28 hL h))) rfl))).trans ?_
  refine (exs_n (ρ':=lrρ ps us (acc F (q-2*L+4*(a:Int)) (num L a)) B u5 u6 u7 (some (.int q)) (some (.int L)) (some (.int (num L a))) (some (.int a)) (some (.int (q-2*L+4*(a:Int))))) ((ex_setItem (l:=dZ F) (kk:=.int (q-2*L+4*(a:Int))) (key:=.int (q-2*L+4*(a:Int))) (d:=.int ((zget F (q-2*L+4*(a:Int))).getD 0+num L a)) rfl (ev_bin (ev_get (x:=.dict (dZ F)) (y:=.int (q-2*L+4*(a:Int))) rfl rfl dZ_getd) (y:=.int (num L a)) rfl rfl) rfl rfl dZ_fits (by unfold dZ;rw [List.length_map];exact y57 hl)).trans ?_)).trans ?_
  ·rw [dZ_put hF];rfl
  refine (exs_n (ex_assign (d:=.int (num L (a+1))) (ev_bin (x:=.int (num L a*((L:Int)-a))) (y:=.int ((a:Int)+1)) (ev_mul rfl rfl (big_of (by exact yv29 nl)) (big_of (by exact yv30 hL h))) rfl ?_))).trans exs_0
  show (if ((decide ((a:Int)+1=0))||decide (1073741824<=((a:Int)+1).natAbs))=true then Res.stuck else Res.ok (PV.int (Int.fdiv (num L a*((L:Int)-a)) ((a:Int)+1))))=_
  rw [decide_eq_false (show ¬ (a:Int)+1=0 by exact y9),decide_eq_false (show ¬ 1073741824<=((a:Int)+1).natAbs by exact yv31 hL h)];rfl
end
end Mine.Internal
end
section
namespace Mine.Internal
open PySem
theorem ev_callT {cf:Nat->List PV->Res PV} {ρ:Slots} {f:Nat} {l:List PE} {xs:List PV} {i:Int} (h1:evs cf ρ l=.ok xs) (h2:cf f xs=.ok (.int i)):ev cf ρ (.call f true l)=.ok (.int i):=by
 rw [vE19,h1]
 show (cf f xs).bind _=_
 rw [h2];rfl
noncomputable def ll (m:Nat) (ov un:Nat->Nat) (s:List Bool):Nat:=dcnt (mhs (rg m) (jn (Jp m ov un) s))
section
variable {cf':Nat->List PV->Res PV} {ps us:List Int} {n:Nat} {ov un:Nat->Nat} {B:List (List Bool)}
theorem ll_ok (h:Plc ps n ov un) (h0:0 < n) {s:List Bool}:1<=ll ps.length ov un s/\ll ps.length ov un s<=2*n:=by
 have h1:=dcnt_le (g:=mhs (rg ps.length) (jn (Jp ps.length ov un) s))
 rw [mhs_len,rg_len,h.len] at h1
 have h2:0 < dcnt (mhs (rg ps.length) (jn (Jp ps.length ov un) s)):=dcnt_pos (by rw [mhs_len,rg_len,h.len];exact y63 h0)
 unfold ll
 rw [h.len] at *
 exact ⟨h2,h1⟩
theorem pw_ok (hu:us.length=n) (hus:∀ t∈us,t=1\/t=-1) {s:List Bool} (hs:s.length=n):-(n:Int)<=pw (fun i=>us.getD i 0) s/\pw (fun i=>us.getD i 0) s<=n/\(pw (fun i=>us.getD i 0) s-n) % 2=0:=by
 have h1:=pw_le (t:=fun i=>us.getD i 0) (s:=s) fun i hi=>by
  have hi':i < us.length:=by exact y83 hu hs hi
  show us.getD i 0=1\/us.getD i 0=-1
  rw [List.getD_eq_getElem?_getD,List.getElem?_eq_getElem hi']
  exact hus _ (List.getElem_mem (h:=hi'))
 rw [hs] at h1;exact h1
theorem lr_step {F:List (Int×Int)} {u5 u7 u8 u9 u10 u11 u12:Option PV} (h:Plc ps n ov un) (h0:0 < n) (hn:n<=10) (hu:us.length=n) (hus:∀ t∈us,t=1\/t=-1) (h21:∀ s:List Bool,s.length=n->cf' 21 [tI ps,.dict (dS s)]=.ok (.int (ll ps.length ov un s))) {s:List Bool} (hs:s.length=n) (hF:(ks F).Nodup) (hl:F.length < 64):
  ∃ v5 v7 v8 v9 v10 v11 v12,exs cf' (lrρ ps us F B u5 (some (bI s)) u7 u8 u9 u10 u11 u12) lrB=.ok (.next (lrρ ps us (accs F (lawL (pw (fun i=>us.getD i 0) s) (ll ps.length ov un s-1))) B v5 (some (bI s)) v7 v8 v9 v10 v11 v12)):=by
 have lo:=ll_ok h h0 (s:=s)
 have po:=pw_ok hu hus hs
 obtain ⟨v5,e1⟩:=lr_power (cf':=cf') (ps:=ps) (us:=us) (F:=F) (B:=B) (u9:=u9) (u10:=u10) (u11:=u11) (u12:=u12) hn hs hu (c:=n) (a:=0) (u5:=u5) (by exact y67)
 rw [Nat.zero_add,<-hs,List.take_length,hs] at e1
 have e21:=h21 s hs
 obtain ⟨v10,v11,v12,e2⟩:=lr_nums (cf':=cf') (ps:=ps) (us:=us) (B:=B) (u5:=v5) (u6:=some (bI s)) (u7:=some (.dict (dS s))) (q:=pw (fun i=>us.getD i 0) s) (L:=ll ps.length ov un s-1) (by exact y101 hn lo.2) (by exact yv33 hn po.1 po.2.1) (c:=ll ps.length ov un s-1+1) (a:=0) (F:=F) (u11:=u11) (u12:=u12) (by exact y104) hF (by unfold lim;exact y105 hn hl lo.2)
 generalize pw (fun i=>us.getD i 0) s=q at *
 have eL:((ll ps.length ov un s-1:Nat):Int)=(ll ps.length ov un s:Int)-1:=by exact y82 lo.1
 generalize ll ps.length ov un s=l at *
 have hl':(us.map PV.int).length=n:=by rw [List.length_map,hu]
 refine ⟨v5,some (.dict (dS s)),some (.int q),some (.int ((l-1:Nat):Int)),v10,v11,v12,(exs_n (ρ':=lrρ ps us F B u5 (some (bI s)) (some (.dict (dS (s.take 0)))) u8 u9 u10 u11 u12) rfl).trans ((exs_n (ρ':=lrρ ps us F B u5 (some (bI s)) (some (.dict (dS (s.take 0)))) (some (.int (pw (fun i=>us.getD i 0) (s.take 0)))) u9 u10 u11 u12) rfl).trans ((exs_n (ex_for (xs:=[.int (n:Nat)]) ?_ (by rw [items_r1 (by exact y103 hn),List.range_eq_range']) e1)).trans ((exs_n (ρ':=lrρ ps us F B v5 (some (bI s)) (some (.dict (dS s))) (some (.int q)) (some (.int ((l-1:Nat):Int))) u10 u11 u12) (ex_assign (ev_bin (x:=.int l) (y:=.int 1) (ev_callT (xs:=[tI ps,.dict (dS s)]) rfl e21) rfl ?_))).trans ((exs_n (ρ':=lrρ ps us F B v5 (some (bI s)) (some (.dict (dS s))) (some (.int q)) (some (.int ((l-1:Nat):Int))) (some (.int (num (l-1) 0))) u11 u12) (ex_assign (ev_idx (x:=.list [.int 1,.int (-1)]) (y:=.int (((l-1) % 2:Nat):Int)) rfl ?_ ?_))).trans ((exs_n (ex_for (xs:=[.int ((l-1+1:Nat):Int)]) rfl (by rw [items_r1 (by exact y106 hn lo.2),List.range_eq_range']) e2)).trans ?_)))))⟩
 ·rw [<-hl'];rfl
 ·show Res.ok (PV.int ((l:Int)-1))=_
  rw [eL]
 ·show Res.ok (PV.int (Int.fmod ((l-1:Nat):Int) 2))=_
  rw [Int.fmod_eq_emod_of_nonneg _ (by decide)];rfl
 ·show _=Res.ok (PV.int (if (l-1) % 2=0 then 1 else -1))
  rcases Nat.mod_two_eq_zero_or_one (l-1) with e | e<;>rw [e]<;>rfl
 ·rw [exs_0];unfold lawL;rw [List.range_eq_range']
theorem mem_lawL {q p:Int} {L:Nat} (h:p∈ks (lawL q L)):q-2*L<=p/\p<=q+2*L/\(p-q) % 2=0:=by
 unfold ks lawL at h
 rw [List.map_map] at h
 obtain ⟨k,hk,rfl⟩:=List.mem_map.1 h
 have:=List.mem_range.1 hk
 show q-2*L<=q-2*L+4*(k:Int)/\q-2*L+4*(k:Int)<=q+2*L/\(q-2*L+4*(k:Int)-q) % 2=0
 exact yv32 this
noncomputable def lt (m:Nat) (ov un:Nat->Nat) (us:List Int) (M:List (List Bool)) (F:List (Int×Int)):List (Int×Int):=M.foldl (fun F s=>accs F (lawL (pw (fun i=>us.getD i 0) s) (ll m ov un s-1))) F
theorem lr_go (h:Plc ps n ov un) (h0:0 < n) (hn:n<=10) (hu:us.length=n) (hus:∀ t∈us,t=1\/t=-1) (h21:∀ s:List Bool,s.length=n->cf' 21 [tI ps,.dict (dS s)]=.ok (.int (ll ps.length ov un s))):
  ∀ {M:List (List Bool)} {F:List (Int×Int)} {u5 u6 u7 u8 u9 u10 u11 u12:Option PV},(∀ s∈M,s.length=n)->Bd n F->Bd n (lt ps.length ov un us M F) /\
   ∃ v5 v6 v7 v8 v9 v10 v11 v12,forGo (fun ρ'=>exs cf' ρ' lrB) (.one 6) (M.map bI) (lrρ ps us F B u5 u6 u7 u8 u9 u10 u11 u12)=.ok (.next (lrρ ps us (lt ps.length ov un us M F) B v5 v6 v7 v8 v9 v10 v11 v12))
 | [],F,u5,u6,u7,u8,u9,u10,u11,u12,_,hF=>⟨hF,u5,u6,u7,u8,u9,u10,u11,u12,rfl⟩
 | s::M,F,u5,u6,u7,u8,u9,u10,u11,u12,hM,hF=>by
  have hs:=hM s List.mem_cons_self
  obtain ⟨w5,w7,w8,w9,w10,w11,w12,e1⟩:=lr_step (cf':=cf') (B:=B) (u5:=u5) (u7:=u7) (u8:=u8) (u9:=u9) (u10:=u10) (u11:=u11) (u12:=u12) h h0 hn hu hus h21 hs hF.1 (few hF.1 hn hF.2)
  have hF':Bd n (accs F (lawL (pw (fun i=>us.getD i 0) s) (ll ps.length ov un s-1))):=⟨accs_nd hF.1,fun p hp=>by
   rcases mem_accs hp with hp | hp
   ·exact hF.2 p hp
   ·have h1:=mem_lawL hp
    have h2:=ll_ok h h0 (s:=s)
    have h3:=pw_ok hu hus hs
    exact yv34 h1.1 h1.2.1 h1.2.2 h2.2 h3.1 h3.2.1 h3.2.2⟩
  obtain ⟨b,v5,v6,v7,v8,v9,v10,v11,v12,e2⟩:=lr_go h h0 hn hu hus h21 (M:=M) (F:=accs F (lawL (pw (fun i=>us.getD i 0) s) (ll ps.length ov un s-1))) (u5:=w5) (u6:=some (bI s)) (u7:=w7) (u8:=w8) (u9:=w9) (u10:=w10) (u11:=w11) (u12:=w12) (fun r hr=>hM r (List.mem_cons_of_mem _ hr)) hF'
  exact ⟨b,v5,v6,v7,v8,v9,v10,v11,v12,(forGo_n (ρ1:=lrρ ps us F B u5 (some (bI s)) u7 u8 u9 u10 u11 u12) rfl e1).trans e2⟩
theorem cf_lt (h:Plc ps n ov un) (h0:0 < n) (hn:n<=10) {p:Int}:cf (lt ps.length ov un us (bsL n) []) p=tot ps.length ov un us n p:=by
 unfold lt tot sgns
 rw [cf_fold,cfN,Int.zero_add,sm_map,sum_bs]
 refine sm_congr fun s hs=>?_
 have hl:=mem_bsL hs
 have lo:=ll_ok h h0 (s:=s)
 rw [cf_law (by exact y101 hn lo.2)]
 have:dcnt (mgs (rg ps.length) (jn (Jp ps.length ov un) s))=ll ps.length ov un s:=dcnt_same (same_steps ⟨rfl,fun _ _ _ _=>Iff.rfl⟩ fun q hq=>by rw [rg_len];exact jn_lt h (Nat.le_of_eq hl) q hq)
 show _=SN (dcnt _-1) (Dl _ 1) p
 rw [this]
theorem eq_nil (us:List Int):cmpop .eq (tI us) (.tuple [])=.ok (decide (us=[])):=by
 have h1:PV.flat (tI us)=true:=flats_int us
 have h2:PV.depth (tI us)=1:=by show PV.depths (us.map .int)+1=1;rw [depths_int]
 show (if (PV.flat (tI us)&&PV.flat (.tuple [])&&decide (PV.depth (tI us)<=60))=true then Res.ok (PV.eqs (us.map .int) (([]:List Int).map .int)) else .stuck)=_
 rw [h1,h2,eqs_int];rfl
noncomputable def lr0 (ps us:List Int):Slots:=[some (dI (ps,us)),some (tI ps),some (tI us),none,none,none,none,none,none,none,none,none,none,none,none,none,none,none,none,none]
theorem law_reckoned_0 {k:Nat}:callN f7_all (k+2) 22 [dI ([],[])]=.ok (.tuple [.tuple [.int 0,.int 1]]):=by
 rw [c2 (by rfl)]
 refine run2 (o:=.ret _) (ρ:=[some (dI ([],[])),none,none,none,none,none,none,none,none,none,none,none,none,none,none,none,none,none,none,none]) rfl rfl ?_
 exact (exs_n (ρ':=lr0 [] []) rfl).trans (exs_r ((ex_ite (ev_cmp rfl rfl (eq_nil []))).trans rfl))
theorem law_reckoned {k:Nat} (h:Plc ps n ov un) (h0:0 < n) (hn:n<=10) (hu:us.length=n) (hus:∀ t∈us,t=1\/t=-1):
  ∃ F,Bd n F/\(∀ p,cf F p=tot ps.length ov un us n p)/\callN f7_all (k+2) 22 [dI (ps,us)]=.ok (res F (sumI us)):=by
 have h21:∀ s:List Bool,s.length=n->callN f7_all (k+1) 21 [tI ps,.dict (dS s)]=.ok (.int (ll ps.length ov un s)):=fun s hs=>law_loops h hn hs
 rw [c2 (by rfl)]
 generalize callN f7_all (k+1)=g at *
 obtain ⟨w5,e1⟩:=lr_states (cf':=g) (ps:=ps) (us:=us) (F:=[]) (u6:=none) (u7:=none) (u8:=none) (u9:=none) (u10:=none) (u11:=none) (u12:=none) hn (c:=n) (a:=0) (u5:=none) (by exact y67)
 rw [Nat.zero_add] at e1
 obtain ⟨bF,v5,v6,v7,v8,v9,v10,v11,v12,e2⟩:=lr_go (cf':=g) (B:=bsL n) h h0 hn hu hus h21 (M:=bsL n) (F:=[]) (u5:=w5) (u6:=none) (u7:=none) (u8:=none) (u9:=none) (u10:=none) (u11:=none) (u12:=none) (fun s hs=>mem_bsL hs) ⟨List.nodup_nil,fun p hp=>absurd hp List.not_mem_nil⟩
 have cfF:∀ p,cf (lt ps.length ov un us (bsL n) []) p=tot ps.length ov un us n p:=fun p=>cf_lt h h0 hn
 refine ⟨_,bF,cfF,?_⟩
 have hlF:=few bF.1 hn bF.2
 have tl:∀ p,(cf (lt ps.length ov un us (bsL n) []) p).natAbs<=2000000000:=fun p=>by rw [cfF];exact tot_le h h0 hn hu hus
 have wl:=sumI_le hus
 have f2:=fmod2 (sumI us)
 generalize hw:sumI us=w at *
 generalize lt ps.length ov un us (bsL n) []=F at *
 have hl':(us.map PV.int).length=n:=by rw [List.length_map,hu]
 refine run2 (o:=.ret _) (ρ:=[some (dI (ps,us)),none,none,none,none,none,none,none,none,none,none,none,none,none,none,none,none,none,none,none]) rfl rfl ?_
 refine (exs_n (ρ':=lr0 ps us) rfl).trans ?_
 refine (exs_n (ex_skip ((ev_cmp rfl rfl (eq_nil us)).trans (by rw [decide_eq_false (fun e=>by rw [e] at hu;simp at hu;exact y102 h0 hu)])))).trans ?_
 refine (exs_n (ρ':=[some (dI (ps,us)),some (tI ps),some (tI us),some (.dict []),none,none,none,none,none,none,none,none,none,none,none,none,none,none,none,none]) rfl).trans ?_
 refine (exs_n (ρ':=lrρ ps us [] (bsL 0) none none none none none none none none) rfl).trans ?_
 refine (exs_n (ex_for (xs:=[.int (n:Nat)]) (by rw [<-hl'];rfl) (by rw [items_r1 (by exact y103 hn),List.range_eq_range']) e1)).trans ?_
 refine (exs_n (ex_for (xs:=[.list ((bsL n).map bI)]) rfl rfl e2)).trans ?_
 refine (exs_n (ρ':=[some (dI (ps,us)),some (tI ps),some (tI us),some (.dict (dZ F)),some (.list ((bsL n).map bI)),v5,v6,v7,v8,v9,v10,v11,v12,some (.int w),none,none,none,none,none,none]) (ex_assign (e:=.prim .sum [(.var 2)]) (d:=.int w) ?_)).trans ?_
 ·show (match PV.ints? (us.map .int) with | some is=>Res.ok (PV.int (sumI is)) | Option.none=>.stuck)=_
  rw [ints_map];exact congrArg (fun z=>Res.ok (PV.int z)) hw
 refine exs_r (ex_ret (res_comp bF.1 hlF rfl (fun p hp=>?_) fun p hp=>?_))
 ·refine (evAnd_b (ev_cmp (ev_idx (x:=.dict (dZ F)) (y:=.int p) rfl rfl (dZ_at bF.1 hp)) rfl eq_int)).trans ?_
  cases decide (cf F p≠0)<;>rfl
 ·rw [vE3,evsC,ev_bin (x:=.int p) (y:=.int (3*w)) (d:=.int (p-3*w)) rfl (ev_mul rfl rfl (by decide) (big_of (by exact yv24 hn hu wl))) rfl,bindK,evsC,ev_mul (x:=cf F p) (y:=1-2*Int.fmod w 2) (ev_idx (x:=.dict (dZ F)) (y:=.int p) rfl rfl (dZ_at bF.1 hp)) (ev_idx (x:=.list [.int 1,.int (-1)]) (y:=.int (Int.fmod w 2)) rfl rfl (by rcases f2 with e | e<;>rw [e]<;>rfl)) (big_of (by have:=tl p;exact yv26 this)) (big_of (by exact yv25 f2)),Int.mul_comm];rfl
end
theorem res_eq {F G:List (Int×Int)} {w:Int} (hF:(ks F).Nodup) (hG:(ks G).Nodup) (h:∀ p,cf F p=cf G p):res F w=res G w:=by
 unfold res
 rw [out_eq hF hG h]
 exact congrArg PV.tuple (List.map_congr_left fun p _=>by rw [h])
end Mine.Internal
end
section
namespace Mine.Internal
open PySem
theorem idxOf?_mem {L:List Int} {k:Int} (h:k∈L):L.idxOf? k=some (L.idxOf k):=by
 have h1:L.idxOf k < L.length:=List.idxOf_lt_length_of_mem h
 cases e:L.idxOf? k with
 | none=>rw [List.idxOf?_eq_none_iff] at e;exact absurd h e
 | some a=>
  have h2:=e
  rw [List.idxOf?,List.findIdx?_eq_some_iff_getElem] at h2
  obtain ⟨ha,hk,hj⟩:=h2
  rcases Nat.lt_trichotomy (L.idxOf k) a with q | q | q
  ·exact absurd (hj _ q) (by rw [List.getElem_idxOf h1];simp)
  ·rw [q]
  ·have:=List.not_of_lt_findIdx (p:=(·==k)) (xs:=L) (i:=a) q
   exact absurd hk (by simpa using this)
theorem Good.plc {n:Nat} {is:List Int} (g:Good n is):Plc is n (fun i=>is.idxOf ((i:Int)+1)) (fun i=>is.idxOf (-((i:Int)+1))) where
 o:=fun i hi=>idxOf?_mem (g.mem (by exact y9) (by unfold absI;split<;>(first | exact y10 | exact y12 hi)))
 u:=fun i hi=>idxOf?_mem (g.mem (by exact y13) (by unfold absI;split<;>(first | exact y14 hi | exact y10)))
 len:=g.len
noncomputable def kx (x:Sd):Int:=if x.2 then -((x.1:Int)+1) else (x.1:Int)+1
noncomputable def kn (m:Nat):List Int:=(kk m).map kx
noncomputable def on (m:Nat):List Int:=List.replicate m 1
theorem kn_succ {m:Nat}:kn (m+1)=kn m++[(m:Int)+1,-((m:Int)+1)]:=by
 unfold kn
 rw [kkS,List.map_append];rfl
theorem kn_len {m:Nat}:(kn m).length=2*m:=by unfold kn;rw [List.length_map,kk_len]
theorem kn_dps {m:Nat}:kn m=dps (kk m) fun _=>1:=by
 unfold dps
 refine List.map_congr_left fun x hx=>?_
 have hl:x.1 < m:=mem_kk.1 (show (x.1,x.2)∈kk m from hx)
 have:qL (kk m) x.1=x.1:=by
  unfold qL;rw [kk_ord]
  obtain ⟨h1,h2⟩:=List.getElem?_eq_some_iff.1 (List.getElem?_range hl)
  have:=List.nodup_range.idxOf_getElem x.1 h1
  rwa [h2] at this
 unfold rv kx
 rw [this]
 cases x.2
 ·exact (Int.mul_one _).symm
 ·show _=((x.1:Int)+1)*-1
  rw [Int.mul_neg,Int.mul_one];rfl
theorem on_dts {m:Nat}:on m=dts (kk m) fun _=>1:=by
 unfold dts;rw [kk_ord,List.map_const',List.length_range];rfl
theorem kn_good {m:Nat}:Good m (kn m):=kn_dps ▸ dps_good (kk_code m) fun _=>.inl rfl
theorem kn_at {i m:Nat} (h:i < m):(kn m)[2*i]?=some ((i:Int)+1)/\(kn m)[2*i+1]?=some (-((i:Int)+1)):=by
 unfold kn
 rw [List.getElem?_map,List.getElem?_map,(kk_at h).1,(kk_at h).2]
 exact ⟨rfl,rfl⟩
theorem idx_of_at {L:List Int} {k:Int} {a:Nat} (nd:L.Nodup) (h:L[a]?=some k):L.idxOf? k=some a:=by
 obtain ⟨ha,e⟩:=List.getElem?_eq_some_iff.1 h
 rw [idxOf?_mem (e ▸ List.getElem_mem ha),<-e,nd.idxOf_getElem a ha]
theorem kn_plc {m:Nat}:Plc (kn m) m (fun i=>2*i) (fun i=>2*i+1) where
 o:=fun i hi=>idx_of_at kn_good.nd (kn_at hi).1
 u:=fun i hi=>idx_of_at kn_good.nd (kn_at hi).2
 len:=kn_len
theorem on_getD {m i:Nat} (h:i < m):(on m).getD i 0=1:=by
 unfold on
 rw [List.getD_eq_getElem?_getD,List.getElem?_replicate,if_pos h];rfl
theorem pw_on {m:Nat} {s:List Bool} (h:s.length<=m):pw (fun i=>(on m).getD i 0) s=2*(trues s:Int)-s.length:=by
 have:∀ (l:List (Bool×Nat)),(∀ q∈l,q.2 < m)->sm (fun q=>if q.1 then (on m).getD q.2 0 else -(on m).getD q.2 0) l=2*(trues (l.map (·.1)):Int)-l.length:=fun l=>by
  induction l with
  | nil=>exact fun _=>rfl
  | cons q l ih=>
   intro hl
   have e:=ih fun r hr=>hl r (List.mem_cons_of_mem _ hr)
   show (if q.1 then (on m).getD q.2 0 else -(on m).getD q.2 0)+sm _ l=2*(trues (q.1::l.map (·.1)):Int)-((l.length+1:Nat):Int)
   rw [e,on_getD (hl q List.mem_cons_self)]
   unfold trues
   cases q.1 with
   | true=>rw [List.count_cons_self,if_pos rfl];exact y22
   | false=>rw [List.count_cons_of_ne (by decide),if_neg Bool.false_ne_true];exact y27
 have:=this s.zipIdx fun q hq=>by have:=List.snd_lt_of_mem_zipIdx hq;exact y28 h this
 unfold pw
 rw [this,List.length_zipIdx,List.zipIdx_map_fst]
theorem tot_kinks {m:Nat} (h0:0 < m) {p:Int}:tot (kn m).length (fun i=>2*i) (fun i=>2*i+1) (on m) m p=if m % 2=0 then Dl (3*m) 1 p else -Dl (3*m) 1 p:=by
 have:=kink_sum (p:=p) (n:=m) (q:=0)
 rw [Int.zero_add] at this
 rw [<-this]
 unfold tot sgns
 rw [sm_map,sum_bs]
 refine sm_congr fun s hs=>?_
 have hl:=mem_bsL hs
 have e1:dcnt (mgs (rg (kn m).length) (jn (Jp (kn m).length (fun i=>2*i) (fun i=>2*i+1)) s))=1+trues s:=by rw [kn_len];exact dcnt_kinks h0 hl
 unfold wt
 dsimp only
 rw [e1,pw_on (Nat.le_of_eq hl),Nat.add_sub_cancel_left,Int.zero_add]
theorem sumI_on {m:Nat}:sumI (on m)=m:=by
 have:∀ j,j<=m->PySem.preSum (fun i=>(on m).getD i 0) j=j:=fun j=>by
  induction j with
  | zero=>exact fun _=>rfl
  | succ j ih=>
   intro h
   show PySem.preSum (fun i=>(on m).getD i 0) j+(on m).getD j 0=_
   rw [ih (by exact y16 h),on_getD h];rfl
 unfold sumI
 rw [show (on m).length=m from List.length_replicate ..]
 exact this m (Nat.le_refl _)
theorem on_ok {m:Nat}:∀ t∈on m,t=1\/t=-1:=fun t ht=>.inl (List.eq_of_mem_replicate ht)
theorem dr_kn {m:Nat} (h:m<=40):Dr (kn m) (on m):=
 ⟨m,kk m,fun _=>1,kk_code m,fun _=>.inl rfl,h,cnt_kinks (by exact wa8 h),kn_dps,on_dts⟩
theorem reckoned_kinks {k m:Nat} (h0:0 < m) (hm:m<=10):callN f7_all (k+6) 13 [dI (kn m,on m)]=.ok (.tuple [.tuple [.int 0,.int 1]]):=by
 obtain ⟨F,b,hc,e⟩:=reckoned (k:=k) kn_plc h0 hm (us:=on m) (List.length_replicate ..) on_ok (dr_kn (by exact y18 hm))
 rw [e]
 have hc:∀ p,cf F p=if m % 2=0 then Dl (3*m) 1 p else -Dl (3*m) 1 p:=fun p=>(hc p).trans (tot_kinks h0)
 have nz:∀ p,cf F p≠0↔p=3*m:=fun p=>by
  rw [hc];unfold Dl
  by_cases q:(3*m:Int)=p
  ·rw [if_pos q];exact ⟨fun _=>q.symm,fun _=>by split<;>decide⟩
  ·rw [if_neg q];exact ⟨fun z=>absurd (by split<;>rfl) z,fun z=>absurd z.symm q⟩
 have ho:out F=[(3*m:Int)]:=by
  have nd:(out F).Nodup:=(srt_perm.nodup_iff.2 b.1).filter _
  have mm:∀ p,p∈out F↔p=3*(m:Int):=fun p=>mem_out.trans (nz p)
  match h:out F,nd,mm with
  | [],_,mm=>exact absurd ((mm (3*m)).2 rfl) List.not_mem_nil
  | [a],_,mm=>rw [(mm a).1 List.mem_cons_self]
  | a::c::l,nd,mm=>
   have e1:=(mm a).1 List.mem_cons_self
   have e2:=(mm c).1 (List.mem_cons_of_mem _ List.mem_cons_self)
   exact absurd (e1.trans e2.symm) fun z=>(List.nodup_cons.1 nd).1 (z ▸ List.mem_cons_self)
 unfold res
 rw [ho,sumI_on]
 show Res.ok (PV.tuple [.tuple [.int ((3*m:Int)-3*(m:Int)),.int ((1-2*Int.fmod m 2)*cf F (3*m))]])=_
 rw [hc,Int.sub_self,Int.fmod_eq_emod_of_nonneg _ (by decide)]
 unfold Dl
 rw [if_pos rfl]
 rcases Nat.mod_two_eq_zero_or_one m with q | q
 ·rw [if_pos q,show (m:Int) % 2=0 by exact yv7 q];rfl
 ·rw [if_neg (by exact yv9 q),show (m:Int) % 2=1 by exact yv10 q];rfl
noncomputable def knB:List PS:=[(.assign 1 (.bin .add (.var 1) (.lst [(.var 2),(.neg (.var 2))])))]
noncomputable def knρ (M:PV) (l:List Int) (u2:Option PV):Slots:=[some M,some (.list (l.map .int)),u2,none,none,none,none,none,none]
theorem kn_go {cf':Nat->List PV->Res PV} {M:PV}:∀ {c a:Nat} {u2:Option PV},a+c<=1000->∃ v2,forGo (fun ρ'=>exs cf' ρ' knB) (.one 2) ((List.range' a c).map fun i:Nat=>.int (1+(i:Int))) (knρ M (kn a) u2)=.ok (.next (knρ M (kn (a+c)) v2))
 | 0,a,u2,_=>⟨u2,rfl⟩
 | c+1,a,u2,h=>by
  obtain ⟨v2,e⟩:=kn_go (cf':=cf') (M:=M) (c:=c) (a:=a+1) (u2:=some (.int (1+(a:Int)))) (by exact y21 h)
  refine ⟨v2,?_⟩
  rw [show a+(c+1)=a+1+c by exact y23]
  refine (forGo_n (ρ1:=knρ M (kn a) (some (.int (1+(a:Int))))) rfl ((exs_n (ex_assign (d:=.list ((kn (a+1)).map .int)) (ev_bin (x:=.list ((kn a).map .int)) (y:=.list [.int (1+(a:Int)),.int (-(1+(a:Int)))]) rfl rfl ?_))).trans exs_0)).trans e
  show mkL ((kn a).map PV.int++[.int (1+(a:Int)),.int (-(1+(a:Int)))])=_
  unfold mkL
  rw [if_pos (by rw [List.length_append,List.length_map,kn_len];show 2*a+2<=lim;unfold lim;exact y32 h),kn_succ,List.map_append,Int.add_comm 1];rfl
theorem flat_on:∀ m:Nat,(List.replicate m [PV.int 1]).flatten=(on m).map PV.int
 | 0=>rfl
 | m+1=>by rw [List.replicate_succ,List.flatten_cons,flat_on m];rfl
theorem law_kinks {k m:Nat} (h2:2<=m) (hm:m<=900):callN f7_all (k+1) 23 [.int m]=.ok (dI (kn m,on m)):=by
 rw [c2 (by rfl)]
 generalize callN f7_all k=g
 refine run2 (o:=.ret _) (ρ:=[some (.int m),none,none,none,none,none,none,none,none]) rfl rfl ?_
 refine (exs_n (ρ':=knρ (.int m) (kn 0) none) rfl).trans ?_
 obtain ⟨v2,e⟩:=kn_go (cf':=g) (M:=.int m) (c:=m) (a:=0) (u2:=none) (by exact y25 hm)
 rw [Nat.zero_add] at e
 have hi:items .range2 [.int 1,.int ((m:Int)+1)]=.ok ((List.range' 0 m).map fun i:Nat=>.int (1+(i:Int))):=by
  rw [itR2,decide_eq_true (show (0:Int)<=1 by decide),decide_eq_true (show (1:Int)<=(m:Int)+1 by exact y26),decide_eq_true (show (m:Int)+1<=((lim:Nat):Int) by unfold lim;exact y29 hm)]
  show Res.ok (upto 1 ((m:Int)+1))=_
  unfold upto
  rw [show ((m:Int)+1-1).toNat=m by exact yv8,List.range_eq_range']
 refine (exs_n (ex_for (xs:=[.int 1,.int ((m:Int)+1)]) rfl hi e)).trans (exs_r (ex_ret ?_))
 have e1:ev g (knρ (.int m) (kn m) v2) (.prim .tupleOf [(.var 1)])=.ok (tI (kn m)):=rfl
 have e2:ev g (knρ (.int m) (kn m) v2) (.bin .mul (.tup [(.const (.int 1))]) (.var 0))=.ok (tI (on m)):=by
  refine ev_bin (x:=.tuple [.int 1]) (y:=.int m) rfl rfl ?_
  rw [bopM,mulVT,decide_eq_true (show (2:Int)<=m by exact y30 h2),decide_eq_true (show (m:Int)<=1000 by exact y31 hm)]
  show Res.ok (PV.tuple (List.replicate (m:Int).toNat [PV.int 1]).flatten)=_
  rw [Int.toNat_natCast,flat_on];rfl
 rw [vE3,evsC,e1,bindK,evsC,e2];rfl
end Mine.Internal
end
section
namespace Mine.Internal
open PySem
noncomputable def prI (L:List (Int×Int)):PV:=.tuple (L.map fun q=>.tuple [.int q.1,.int q.2])
theorem prI_flat:∀ (L:List (Int×Int)),PV.flats (L.map fun q=>.tuple [.int q.1,.int q.2])=true/\PV.depths (L.map fun q=>.tuple [.int q.1,.int q.2])<=1/\PV.eqs (L.map fun q=>.tuple [.int q.1,.int q.2]) (L.map fun q=>.tuple [.int q.1,.int q.2])=true
 | []=>⟨rfl,Nat.zero_le _,rfl⟩
 | q::L=>by
  obtain ⟨h1,h2,h3⟩:=prI_flat L
  rw [List.map_cons,flatsC,h1,depsC,eqsC,h3]
  refine ⟨rfl,Nat.max_le.2 ⟨by show max 0 (max 0 0)+1<=1;decide,h2⟩,?_⟩
  show ((q.1==q.1)&&((q.2==q.2)&&true))&&true=true
  rw [beq_self_eq_true,beq_self_eq_true];rfl
theorem prI_eq (L:List (Int×Int)):cmpop .eq (prI L) (prI L)=.ok true/\cmpop .ne (prI L) (prI L)=.ok false:=by
 obtain ⟨h1,h2,h3⟩:=prI_flat L
 have f:PV.flat (prI L)=true:=h1
 have d:decide (PV.depth (prI L)<=60)=true:=decide_eq_true (by show PV.depths _+1<=60;exact y33 h2)
 have e:PV.eq (prI L) (prI L)=true:=h3
 rw [copE,copN,f,d,e];exact ⟨rfl,rfl⟩
theorem res_pr {F:List (Int×Int)} {w:Int}:∃ L,res F w=prI L:=⟨(out F).map fun p=>(p-3*w,(1-2*Int.fmod w 2)*cf F p),by unfold res prI;rw [List.map_map];rfl⟩
noncomputable def lw7 (S D R:PV) (u3:Option PV):Slots:=[some S,some D,some R,u3,none,none,none,none,none,none]
noncomputable def lw7B:List PS:=[(.ite (.or [(.not (.prim (.isi .tuple) [(.var 3)])),(.not (.call 16 false [(.idx (.var 3) (.const (.int 0)))])),(.not (.call 16 false [(.idx (.var 3) (.const (.int 1)))]))]) [(.ret (.const (.bool false)))] [])]
section
variable {g:Nat->List PV->Res PV} {S D R:PV}
theorem lw7_go (h16:∀ i:Int,g 16 [.int i]=.ok (.bool true)):∀ {L:List (Int×Int)} {u3:Option PV},∃ v3,forGo (fun ρ'=>exs g ρ' lw7B) (.one 3) (L.map fun q=>.tuple [.int q.1,.int q.2]) (lw7 S D R u3)=.ok (.next (lw7 S D R v3))
 | [],u3=>⟨u3,rfl⟩
 | q::L,u3=>by
  obtain ⟨v3,e⟩:=lw7_go h16 (L:=L) (u3:=some (.tuple [.int q.1,.int q.2]))
  refine ⟨v3,(forGo_n (ρ1:=lw7 S D R (some (.tuple [.int q.1,.int q.2]))) rfl ((exs_n (ex_skip (ev_or ?_))).trans exs_0)).trans e⟩
  refine (evOr_f (ev_not (b:=true) rfl)).trans ((evOr_f (ev_not (b:=true) (ev_call (xs:=[.int q.1]) rfl (h16 _)))).trans ((evOr_f (ev_not (b:=true) (ev_call (xs:=[.int q.2]) rfl (h16 _)))).trans rfl))
theorem law_core7 {c0 c1:Int} {L:List (Int×Int)} (h16:∀ i:Int,g 16 [.int i]=.ok (.bool true)) (f0:g 14 [S,.int 0]=.ok (.int c0)) (f1:g 14 [S,.int 1]=.ok (.int c1)) (f20:g 20 [.int c0,.int 5]=.ok D) (f13:g 13 [D]=.ok (prI L)) (f22:g 22 [D]=.ok (prI L))
  (f23:∀ m:Nat,2<=m->m<=900->g 23 [.int m]=.ok (dI (kn m,on m))) (fk:∀ m:Nat,0 < m->m<=10->g 13 [dI (kn m,on m)]=.ok (prI [(0,1)])) (fx:∀ m:Nat,10 < m->m<=40->g 24 [dI (kn m,on m)]=.ok (.bool true)):
  exs g [some S,none,none,none,none,none,none,none,none,none] f7_law.body=.ok (.ret (.bool true)):=by
 refine (exs_n (ρ':=[some S,some D,none,none,none,none,none,none,none,none]) (ex_assign (ev_call (xs:=[.int c0,.int 5]) ?_ f20))).trans ?_
 ·rw [evsC,ev_call (xs:=[S,.int 0]) rfl f0];rfl
 refine (exs_n (ρ':=lw7 S D (prI L) none) (ex_assign (ev_call (xs:=[D]) rfl f13))).trans ?_
 refine (exs_n (ex_skip (ev_or ((evOr_f (ev_not (b:=true) rfl)).trans ((evOr_f (ev_cmp (x:=prI L) (y:=prI L) rfl (ev_call (xs:=[D]) rfl f22) (prI_eq L).2)).trans rfl))))).trans ?_
 obtain ⟨v3,e⟩:=lw7_go (g:=g) (S:=S) (D:=D) (R:=prI L) h16 (L:=L) (u3:=none)
 refine (exs_n (ex_for (xs:=[prI L]) rfl rfl e)).trans ?_
 have c14:ev g (lw7 S D (prI L) v3) (.call 14 false [(.var 0),(.const (.int 1))])=.ok (.int c1):=ev_call (xs:=[S,.int 1]) rfl f1
 refine (exs_n (ex_skip (ev_and ?_))).trans ?_
 ·have m1:ev g (lw7 S D (prI L) v3) (.cmp .eq (.bin .mod (.call 14 false [(.var 0),(.const (.int 1))]) (.const (.int 32))) (.const (.int 1)))=.ok (.bool (Int.fmod c1 32==1)):=ev_cmp (x:=.int (Int.fmod c1 32)) (y:=.int 1) (ev_bin (x:=.int c1) (y:=.int 32) c14 rfl rfl) rfl rfl
  rw [evAnd_b m1]
  cases Int.fmod c1 32==1 with
  | false=>rfl
  | true=>
   rw [if_pos rfl]
   have r:=fmod_range (Int.fdiv c1 32) (m:=2) (by decide)
   obtain ⟨m,hm⟩:∃ m:Nat,(m:Int)=9+Int.fmod (Int.fdiv c1 32) 2:=⟨(9+Int.fmod (Int.fdiv c1 32) 2).toNat,by exact yv11 r.1⟩
   have a1:ev g (lw7 S D (prI L) v3) (.bin .add (.const (.int 9)) (.bin .mod (.bin .fdiv (.call 14 false [(.var 0),(.const (.int 1))]) (.const (.int 32))) (.const (.int 2))))=.ok (.int m):=by
    rw [hm]
    exact ev_bin (x:=.int 9) (y:=.int (Int.fmod (Int.fdiv c1 32) 2)) rfl (ev_bin (x:=.int (Int.fdiv c1 32)) (y:=.int 2) (ev_bin (x:=.int c1) (y:=.int 32) c14 rfl rfl) rfl rfl) rfl
   have a2:ev g (lw7 S D (prI L) v3) (.call 13 false [(.call 23 false [(.bin .add (.const (.int 9)) (.bin .mod (.bin .fdiv (.call 14 false [(.var 0),(.const (.int 1))]) (.const (.int 32))) (.const (.int 2))))])])=.ok (prI [(0,1)]):=by
    refine ev_call (xs:=[dI (kn m,on m)]) ?_ (fk m (by exact y37 r.1 hm) (by exact y39 r.2 hm))
    rw [evsC,ev_call (xs:=[.int m]) (by rw [evsC,a1];rfl) (f23 m (by exact y40 r.1 hm) (by exact y41 r.2 hm))];rfl
   rw [evAnd_b (ev_cmp a2 (y:=prI [(0,1)]) rfl (prI_eq [(0,1)]).2)];rfl
 refine exs_r (ex_ret (ev_and ?_))
 have r:=fmod_range c1 (m:=30) (by decide)
 obtain ⟨m,hm⟩:∃ m:Nat,(m:Int)=11+Int.fmod c1 30:=⟨(11+Int.fmod c1 30).toNat,by exact yv12 r.1⟩
 have a1:ev g (lw7 S D (prI L) v3) (.bin .add (.const (.int 11)) (.bin .mod (.call 14 false [(.var 0),(.const (.int 1))]) (.const (.int 30))))=.ok (.int m):=by
  rw [hm]
  exact ev_bin (x:=.int 11) (y:=.int (Int.fmod c1 30)) rfl (ev_bin (x:=.int c1) (y:=.int 30) c14 rfl rfl) rfl
 have a2:ev g (lw7 S D (prI L) v3) (.call 24 false [(.call 23 false [(.bin .add (.const (.int 11)) (.bin .mod (.call 14 false [(.var 0),(.const (.int 1))]) (.const (.int 30))))])])=.ok (.bool true):=by
  refine ev_call (xs:=[dI (kn m,on m)]) ?_ (fx m (by exact y42 r.1 hm) (by exact y43 r.2 hm))
  rw [evsC,ev_call (xs:=[.int m]) (by rw [evsC,a1];rfl) (f23 m (by exact y44 r.1 hm) (by exact y45 r.2 hm))];rfl
 refine (evAnd_b a2).trans ((if_pos rfl).trans ((evAnd_b (ev_cmp (ev_call (xs:=[D]) rfl f13) (y:=prI L) rfl (prI_eq L).1)).trans rfl))
end
theorem refused {k m:Nat} (h:10 < m) (hm:m<=40):callN f7_all (k+7) 24 [dI (kn m,on m)]=.ok (.bool true):=by
 have e:=reckoned_x (k:=k) (ps:=kn m) (us:=on m) (by rw [show (on m).length=m from List.length_replicate ..];exact h) (dr_kn hm)
 rw [c2 (by rfl)]
 generalize callN f7_all (k+6)=g at *
 refine run2 (o:=.ret _) (ρ:=[some (dI (kn m,on m)),none,none,none,none,none,none,none]) rfl rfl ?_
 refine exs_r ?_
 rw [xE13,show evs g [some (dI (kn m,on m)),none,none,none,none,none,none,none] [.var 0]=.ok [dI (kn m,on m)] from rfl,bindK,e];rfl
theorem law_true (ns:List Int):callN f7_all 8 25 [.list (ns.map .int)]=.ok (.bool true):=by
 obtain ⟨c0,f0⟩:=cell_at (n:=6) (k:=0) ns
 obtain ⟨c1,f1⟩:=cell_at (n:=6) (k:=1) ns
 obtain ⟨s,wd,k0,B,hk0,f20⟩:=drawn (n:=4) c0
 have hsg:=sgO_ok B.ok
 have key:∀ ps ts:List Int,∀ n:Nat,callN f7_all 7 20 [.int c0,.int 5]=.ok (dI (ps,ts))->Good n ps->ts.length=n->n<=8->(∀ t∈ts,t=1\/t=-1)->Dr ps ts->callN f7_all 8 25 [.list (ns.map .int)]=.ok (.bool true):=fun ps ts n h20 hg ht hn hts hd=>by
  have both:∃ L,callN f7_all 7 13 [dI (ps,ts)]=.ok (prI L)/\callN f7_all 7 22 [dI (ps,ts)]=.ok (prI L):=by
   rcases Nat.eq_zero_or_pos n with h0 | h0
   ·have e1:ps=[]:=List.length_eq_zero_iff.1 (by rw [hg.len,h0])
    have e2:ts=[]:=List.length_eq_zero_iff.1 (by rw [ht,h0])
    subst e1;subst e2
    exact ⟨[(0,1)],reckoned_0 (k:=1) hd,law_reckoned_0 (k:=5)⟩
   ·obtain ⟨F,bF,cF,e1⟩:=reckoned (k:=1) hg.plc h0 (by exact y36 hn) ht hts hd
    obtain ⟨G,bG,cG,e2⟩:=law_reckoned (k:=5) hg.plc h0 (by exact y36 hn) ht hts
    obtain ⟨L,hL⟩:=res_pr (F:=F) (w:=sumI ts)
    rw [<-res_eq bF.1 bG.1 (fun p=>(cF p).trans (cG p).symm)] at e2
    exact ⟨L,e1.trans (by rw [hL]),e2.trans (by rw [hL])⟩
  obtain ⟨L,f13,f22⟩:=both
  rw [c2 (by rfl)]
  exact run2 (o:=.ret _) rfl rfl (law_core7 (fun d=>law_whole d) f0 f1 h20 f13 f22 (fun m h2 hm=>law_kinks h2 hm) (fun m h0 hm=>reckoned_kinks (k:=1) h0 hm) fun m h hm=>refused (k:=0) h hm)
 by_cases h2:2<=s
 ·obtain ⟨w0,hw0,hw⟩:=B.more h2
  have o0:=closed_rope h2 B.h5 hw0
  rw [<-hw] at o0
  have o:=o0.rot k0 hk0
  have hwl:(wd.map (·.1)).length<=8:=by rw [List.length_map];exact B.len
  exact key _ _ _ f20 (dps_good o.code hsg) (dts_len o.code) hwl (dts_ok hsg) (dr_rope o hsg (by exact y36 hwl))
 ·have hs1:s=1:=by have:=B.h0;exact y38 h2 this
  have hwd:=B.one hs1
  subst hwd;subst hs1
  have hE:dI (dps (rot k0 (rnd (([]:List (Nat×Int)).map (·.1)) 1 0)) (sgO []),dts (rot k0 (rnd (([]:List (Nat×Int)).map (·.1)) 1 0)) (sgO []))=dI ([],[]):=by
   have:rot k0 (rnd (([]:List (Nat×Int)).map (·.1)) 1 0)=[]:=by
    show rot k0 ([]:List Sd)=[]
    simp [rot]
   rw [this];rfl
  rw [hE] at f20
  exact key [] [] 0 f20 (kn_good (m:=0)) rfl (by decide) (fun t ht=>absurd ht List.not_mem_nil) (dr_kn (m:=0) (by decide))
end Mine.Internal
end
section
open PySem PySem.W PyProof.Rows
namespace Mine.Internal
set_option maxRecDepth 100000 in
set_option maxHeartbeats 8000000 in
theorem left2:LeftO PySem.Challenge.rw_uf030002_07.row.prog view2 [] (fun s=>xlAt view2 [] s&&recOk (RowW.records PySem.Challenge.rw_uf030002_07.row.toRowW) s&&xcAt s) (Hook.obs Hook.none) (Hook.val Hook.none) 2590:=by
 intro w
 kernel_rfl
noncomputable def d2:DefRec×List (Str×PySem.Expr):=(defOf view2 ("law" : Str)).getD (⟨"",default,[],default,default⟩,[])
theorem d2_def:defOf view2 PySem.Challenge.rw_uf030002_07.row.name=some (d2.1,d2.2):=by kernel_rfl
theorem d2_the:PySem.Challenge.rw_uf030002_07.row.prog.theDef PySem.Challenge.rw_uf030002_07.row.name=some (d2.1.params,d2.1.body,d2.1.scope):=by kernel_rfl
theorem d2_kw:kwWritten? d2.1.params.kwonlyargs d2.1.params.kw_defaults=some d2.2:=by kernel_rfl
noncomputable def os2:List (Str×Opt):=[("_law_cycles",{fr:=true,own:=["_law_heads"]}),("_law_loops",{fr:=true})]
noncomputable def more2:List (Str×GE):=[("MARK",.const (.int 0)),("MOST",.const (.int 40)),("MOST_OPENED",.const (.int 10))]
noncomputable def veM:List Value:=[.type "ValueError",.type "Exception",.type "BaseException",.type "object"]
theorem st_hok:(defs view2).all (defOk os2)=true:=by decide +kernel
theorem st_hpl:plainOk view2 (looseW view2 [])=true:=by decide +kernel
theorem st_hf:(defs view2).map (fnOf 200 os2 (mkG os2 (defs view2) more2))=f7_all.map some:=by kernel_rfl
theorem st_hx:(mkG os2 (defs view2) more2).lookup ("law" : Str)=some (.fn 25 1 false):=by kernel_rfl
theorem st_v0:valOf view2 ("MARK" : Str)=some (.int 0):=by kernel_rfl
theorem st_v1:valOf view2 ("MOST" : Str)=some (.int 40):=by kernel_rfl
theorem st_v2:valOf view2 ("MOST_OPENED" : Str)=some (.int 10):=by kernel_rfl
theorem st_c0:specOf view2 ("TooMany" : Str)=some ("ValueError.__new__",veM):=by kernel_rfl
theorem st_rk:RkAt view2 200 os2 (mkG os2 (defs view2) more2) f7_all 13 (.call 7 false [(.var 0)]) (.cmp .gt (.prim .len [(.idx (.var 0) (.const (.int 1)))]) (.const (.int 10))) where
 few:=by decide
 rk:=by kernel_rfl
 lk:=⟨1,false,by kernel_rfl⟩
 fk:=⟨f7_reckoned,_,rfl,rfl,fun _ _=>rfl⟩
theorem st_more:∀ q∈more2,moreOk view2 q:=by
 intro q hq
 simp only [more2,List.mem_cons,List.not_mem_nil,or_false] at hq
 rcases hq with rfl | rfl | rfl
 ·exact st_v0
 ·exact st_v1
 ·exact st_v2
theorem pp_w:PP w:=fun s₁ mean mg mb fa a vs ns T X hmg hx hI hlen=>
 codeAny_mono (entry (os:=os2) (more:=more2) (N:=200) (fns:=f7_all) T X PySem.F.excBase_ValueError st_c0 st_more st_hpl st_rk st_hok st_hf st_hx hmg hx hI (by unfold lim;omega) (D:=8) (by omega) (law_true ns)) fun r s' h=>by
  obtain ⟨v,rfl,hv,hk,h',tk,rfl⟩:=h
  have hv':v=.bool true:=hv
  exact ⟨by rw [hv'],hk,h',tk,rfl⟩
theorem well_list_get {P:Params} {h:Heap} {a:Addr} {xs:List WData} (W:Well P h (.ref a) (.list xs)):∃ vs:List Value,h.get? a=some { cls:=.type "list",data:=.seq vs.toArray }:=by
 cases W with
 | list e _=>exact ⟨_,e⟩
theorem list_exact {P:Params} {h:Heap} {a:Addr} {vs:List Value} {xs:List PyData} (W:Well P h (.ref a) (ofPy (.list xs))) (L:h.IsList a vs.toArray):h.get? a=some { cls:=.type "list",data:=.seq vs.toArray }:=by
 have e0:ofPy (.list xs)=.list (ofPys xs):=by simp [ofPy]
 rw [e0] at W
 obtain ⟨us,e⟩:=well_list_get W
 obtain ⟨o,ho,hc,n,hd⟩:=L
 rw [e] at ho
 cases ho
 simp only [Data.seq.injEq] at hd
 rw [e,hd.1]
end Mine.Internal
set_option maxRecDepth 100000 in
set_option maxHeartbeats 8000000 in
theorem PySem.Challenge.cw_uf030002_07_holds : PySem.Challenge.rw_uf030002_07.Holds := by
 refine holds_law (by decide +kernel) fun said=>?_
 refine holds_open (q:=Mine.Internal.view2) (loose:=[]) (Xt:=fun s=>xlAt Mine.Internal.view2 [] s&&recOk (RowW.records PySem.Challenge.rw_uf030002_07.row.toRowW) s&&Mine.Internal.xcAt s) (XP:=fun mg h=>XL Mine.Internal.view2 [] mg h/\Mine.Internal.XcAt mg h) (Yf:=Hook.obs Hook.none) (Ya:=Hook.val Hook.none) (YP:=Hook.says Hook.none) (N:=2590) (d:=Mine.Internal.d2.1) (kwd:=Mine.Internal.d2.2)
  Mine.Internal.left2 (Hook.of Hook.none) (Hook.keeps Hook.none) (fun s e=>⟨xl_of s (Bool.and_eq_true_iff.mp (Bool.and_eq_true_iff.mp e).1).1,Mine.Internal.xc_of s (Bool.and_eq_true_iff.mp e).2⟩) (fun mg h h' x k=>⟨XL.keeps mg h h' x.1 k,x.2.keeps k⟩) Mine.Internal.d2_def Mine.Internal.d2_the Mine.Internal.d2_kw (fun s e=>recFacts_of (Bool.and_eq_true_iff.mp (Bool.and_eq_true_iff.mp e).1).2) (by decide +kernel) said (by decide +kernel) ⟨rfl,rfl,rfl,rfl,rfl,by decide +kernel⟩ ?hw ?hc
 case hw=>w_witness2
 intro w s₀ s₁ mg mb G Y fa o pm cd doc dV kV ho hd hcd hD hmg hg args vals as hpre hlay hrd hwl hlo
 have X:=G.X.2
 refine Ground.open G ?_
 intro T B D TE TW
 clear D B TE TW hd hcd hD ho Y
 wrow_args hpre hlay hrd hwl hlo
 all_goals (first | refine callC_kw (enter_call ?_) | refine enter_call ?_ | refine callC_kw (enter_callW ?_) | refine enter_callW ?_ | w_how;w_top on)
 rename_i nsv hs hlay0 hL1 hr1 hl2 as1 as2 a vs as3 hL ra W r0 hI hr hcond hcond2
 have hx:=Mine.Internal.list_exact W hL
 have hlen:nsv.length<=63:=by
  have:¬ ((63:Int) < (nsv.length:Int)):=hcond
  omega
 refine codeAny_mono (Mine.Internal.pp_all Mine.Internal.pp_w w s₁ _ mg mb fa a vs nsv T X hmg hx hI hlen) ?_
 rintro r s' ⟨rfl,hk,h',tk,rfl⟩
 refine GoodW.toG ⟨.inl ⟨_,.bool true,[],rfl,?_,.bool true,?_,?_⟩,hk,rfl,hg⟩
 ·intro cls;rfl
 ·wrow_post
 ·intro _;exact ⟨List.nodup_nil,fun a ha=>by cases ha⟩
end
