import PyProof.Rows.All
import Wide.All
import OpenK.AllK
import KE.KDictSum
import Wide.FinOn
import Lean
import PySem.Challenge.RW_rh0243_01
open PySem PySem.W PySem.Calls PyProof.Rows
set_option Elab.async false
set_option maxRecDepth 100000
set_option maxHeartbeats 0
set_option linter.all false
namespace Mine
noncomputable abbrev Ln1:=List Int
noncomputable def dot:Ln1→Ln1→Int
 | [],_=>0
 | _::_,[]=>0
 | c::l,x::r=>c * x+dot l r
noncomputable def adL:Ln1→Ln1→Ln1
 | [],b=>b
 | c::a,[]=>c::a
 | c::a,x::b=>(c+x)::adL a b
noncomputable def scL (k:Int) (l:Ln1):Ln1:=l.map (k * ·)
noncomputable def sbL (a b:Ln1):Ln1:=adL a (scL (-1) b)
theorem zdT:∀ (a b t:Ln1),dot (adL a b) t=dot a t+dot b t
 | [],b,t=>by rw [adL,dot,Int.zero_add]
 | c::a,[],t=>by rw [adL,dot.eq_1,Int.add_zero]
 | c::a,x::b,[]=>rfl
 | c::a,x::b,y::t=>by rw [adL,dot,dot,dot,zdT a b t,Int.add_mul]; exact (Int.add_assoc _ _ _).trans ((congrArg (_+·) (Int.add_left_comm _ _ _)).trans (Int.add_assoc _ _ _).symm)
theorem zdU (k:Int):∀ (a t:Ln1),dot (scL k a) t=k * dot a t
 | [],t=>(Int.mul_zero k).symm
 | c::a,[]=>(Int.mul_zero k).symm
 | c::a,y::t=>by rw [dot,Int.mul_add,← zdU k a t,← Int.mul_assoc]; rfl
theorem zbu (a b t:Ln1):dot (sbL a b) t=dot a t - dot b t:=by rw [sbL,zdT,zdU,Int.neg_one_mul,Int.sub_eq_add_neg]
noncomputable def unL:Nat→Ln1
 | 0=>[1]
 | n+1=>0::unL n
noncomputable def zfk:List Nat→Nat→Nat
 | [],_=>0
 | x::_,0=>x
 | _::r,i+1=>zfk r i
theorem zeW:∀ (i:Nat) (r:List Nat),dot (unL i) (r.map Int.ofNat)=(zfk r i:Nat)
 | 0,[]=>rfl
 | _+1,[]=>rfl
 | 0,x::r=>by show 1 * (x:Int)+dot [] _=_; rw [dot,Int.one_mul,Int.add_zero]; rfl
 | i+1,x::r=>by show 0 * (x:Int)+dot (unL i) _=_; rw [Int.zero_mul,Int.zero_add,zeW i r]; rfl
set_option genCtorIdx false in
set_option genSizeOf false in
set_option genInjectivity false in
inductive TE where
 | v (i:Nat) | k (n:Nat) | a (x y:TE) | s (x y:TE) | m (x y:TE) | M (x y:TE) | t (x:TE) | c (x:TE) | g (x:TE)
mutual
noncomputable def TE.n (r:List Nat):TE→Nat
 | .v i=>zfk r i
 | .k n=>n
 | .a x y=>x.n r+y.n r
 | .s x y=>x.n r - y.n r
 | .m x y=>min (x.n r) (y.n r)
 | .M x y=>max (x.n r) (y.n r)
 | .t x=>(x.j r).toNat
 | .c _=>0
 | .g _=>0
noncomputable def TE.j (r:List Nat):TE→Int
 | .v _=>0
 | .k n=>(n:Int)
 | .a x y=>x.j r+y.j r
 | .s x y=>x.j r - y.j r
 | .m x y=>min (x.j r) (y.j r)
 | .M x y=>max (x.j r) (y.j r)
 | .t _=>0
 | .c x=>((x.n r:Nat):Int)
 | .g x=>-x.j r
end
noncomputable abbrev Alt:=List (List Ln1 × Ln1)
noncomputable def csA (A B:Alt) (f:Ln1→Ln1→Alt):Alt:=A.flatMap fun p=>B.flatMap fun q=>(f p.2 q.2).map fun r=>(p.1++(q.1++r.1),r.2)
noncomputable def okL (t:Ln1) (cs:List Ln1):Prop:=∀ c ∈ cs,0≤dot c t
noncomputable def okA (t:Ln1) (A:Alt) (x:Int):Prop:=∃ p ∈ A,okL t p.1∧dot p.2 t=x
theorem okL.app {t:Ln1} {a b:List Ln1} (h:okL t a) (h':okL t b):okL t (a++b):=fun c hc=>(List.mem_append.mp hc).elim (h c) (h' c)
theorem okL.one {t c:Ln1} (h:0≤dot c t):okL t [c]:=fun _ hc=>List.mem_singleton.mp hc ▸ h
theorem okL.nil {t:Ln1}:okL t []:=fun _ hc=>absurd hc List.not_mem_nil
theorem zbt {t:Ln1} {A B:Alt} {f:Ln1→Ln1→Alt} {x y z:Int} (hA:okA t A x) (hB:okA t B y) (h:∀ l r,dot l t=x→dot r t=y→okA t (f l r) z):okA t (csA A B f) z:=
 hA.elim fun p hp=>hB.elim fun q hq=>(h p.2 q.2 hp.2.2 hq.2.2).elim fun r hr =>
  ⟨_,List.mem_flatMap.mpr ⟨p,hp.1,List.mem_flatMap.mpr ⟨q,hq.1,List.mem_map.mpr ⟨r,hr.1,rfl⟩⟩⟩,hp.2.1.app (hq.2.1.app hr.2.1),hr.2.2⟩
noncomputable def zrA:Alt:=[([],[])]
noncomputable def adA (l r:Ln1):Alt:=[([],adL l r)]
noncomputable def sbA (l r:Ln1):Alt:=[([],sbL l r)]
noncomputable def tsA (l r:Ln1):Alt:=[([sbL l r],sbL l r),([sbL r l],[])]
noncomputable def mnA (l r:Ln1):Alt:=[([sbL r l],l),([sbL l r],r)]
noncomputable def mxA (l r:Ln1):Alt:=[([sbL r l],r),([sbL l r],l)]
theorem zdr {t c:Ln1} {x:Int} (h:dot c t=x):okA t [([],c)] x:=⟨_,.head _,.nil,h⟩
theorem zfL {t c d c' d':Ln1} {x:Int} (h:(0≤dot c t∧dot d t=x)∨(0≤dot c' t∧dot d' t=x)):okA t [([c],d),([c'],d')] x:=
 h.elim (fun h=>⟨_,.head _,.one h.1,h.2⟩) fun h=>⟨_,.tail _ (.head _),.one h.1,h.2⟩
theorem zc7 {t:Ln1}:okA t zrA 0:=zdr rfl
theorem zfR {t l r:Ln1} {x y:Int} (h:dot l t=x) (h':dot r t=y):okA t (adA l r) (x+y):=zdr (by rw [zdT,h,h'])
theorem ziV {t l r:Ln1} {x y:Int} (h:dot l t=x) (h':dot r t=y):okA t (sbA l r) (x - y):=zdr (by rw [zbu,h,h'])
theorem zjx {t l r:Ln1} {x y z:Int} (h:dot l t=x) (h':dot r t=y) (hz:(y≤x∧x - y=z)∨(x≤y∧z=0)):okA t (tsA l r) z:=zfL (by
 rw [zbu,zbu,h,h']
 exact hz.imp (fun q=>⟨Int.sub_nonneg_of_le q.1,q.2⟩) fun q=>⟨Int.sub_nonneg_of_le q.1,q.2.symm⟩)
theorem zii {t l r:Ln1} {x y:Int} (h:dot l t=x) (h':dot r t=y):okA t (mnA l r) (min x y):=zfL (by
 rw [zbu,zbu,h,h']
 exact (Int.le_total x y).imp (fun q=>⟨Int.sub_nonneg_of_le q,(Int.min_eq_left q).symm⟩) fun q=>⟨Int.sub_nonneg_of_le q,(Int.min_eq_right q).symm⟩)
theorem zik {t l r:Ln1} {x y:Int} (h:dot l t=x) (h':dot r t=y):okA t (mxA l r) (max x y):=zfL (by
 rw [zbu,zbu,h,h']
 exact (Int.le_total x y).imp (fun q=>⟨Int.sub_nonneg_of_le q,(Int.max_eq_right q).symm⟩) fun q=>⟨Int.sub_nonneg_of_le q,(Int.max_eq_left q).symm⟩)
mutual
noncomputable def TE.ln:TE→Alt
 | .v i=>[([],unL (i+1))]
 | .k n=>[([],[(n:Int)])]
 | .a x y=>csA x.ln y.ln adA
 | .s x y=>csA x.ln y.ln tsA
 | .m x y=>csA x.ln y.ln mnA
 | .M x y=>csA x.ln y.ln mxA
 | .t x=>csA x.lj zrA tsA
 | .c _=>zrA
 | .g _=>zrA
noncomputable def TE.lj:TE→Alt
 | .v _=>zrA
 | .k n=>[([],[(n:Int)])]
 | .a x y=>csA x.lj y.lj adA
 | .s x y=>csA x.lj y.lj sbA
 | .m x y=>csA x.lj y.lj mnA
 | .M x y=>csA x.lj y.lj mxA
 | .t _=>zrA
 | .c x=>x.ln
 | .g x=>csA zrA x.lj sbA
end
noncomputable def vl (r:List Nat):Ln1:=1::r.map Int.ofNat
theorem k_ok (r:List Nat) (n:Nat):okA (vl r) [([],[(n:Int)])] n:=zdr (by show (n:Int) * 1+dot [] _=_; rw [dot,Int.mul_one,Int.add_zero])
theorem zj8 (a b:Nat):((b:Int)≤a∧(a:Int) - b=((a - b:Nat):Int))∨((a:Int)≤b∧((a - b:Nat):Int)=0):=
 (Nat.le_total b a).imp (fun h=>⟨Int.ofNat_le.mpr h,(Int.ofNat_sub h).symm⟩) fun h=>⟨Int.ofNat_le.mpr h,by rw [Nat.sub_eq_zero_of_le h]; rfl⟩
theorem zqi (a:Int):(0≤a∧a - 0=(a.toNat:Int))∨(a≤0∧(a.toNat:Int)=0):=
 (Int.le_total 0 a).imp (fun h=>⟨h,by rw [Int.sub_zero,Int.toNat_of_nonneg h]⟩) fun h=>⟨h,by rw [Int.toNat_of_nonpos h]; rfl⟩
theorem zj7 (a b:Nat):((min a b:Nat):Int)=min (a:Int) b:=(Nat.le_total a b).elim (fun h=>by rw [Nat.min_eq_left h,Int.min_eq_left (Int.ofNat_le.mpr h)]) fun h=>by rw [Nat.min_eq_right h,Int.min_eq_right (Int.ofNat_le.mpr h)]
theorem zj6 (a b:Nat):((max a b:Nat):Int)=max (a:Int) b:=(Nat.le_total a b).elim (fun h=>by rw [Nat.max_eq_right h,Int.max_eq_right (Int.ofNat_le.mpr h)]) fun h=>by rw [Nat.max_eq_left h,Int.max_eq_left (Int.ofNat_le.mpr h)]
theorem TE.ok (r:List Nat) (e:TE):okA (vl r) e.ln (e.n r:Nat)∧okA (vl r) e.lj (e.j r):=by
 induction e with
 | v i=>exact ⟨zdr (by show 0 * 1+dot (unL i) _=_; rw [Int.zero_mul,Int.zero_add,zeW]; rfl),zc7⟩
 | k n=>exact ⟨k_ok r n,k_ok r n⟩
 | a x y hx hy=>exact ⟨zbt hx.1 hy.1 fun _ _=>zfR,zbt hx.2 hy.2 fun _ _=>zfR⟩
 | s x y hx hy=>exact ⟨zbt hx.1 hy.1 fun _ _ h h'=>zjx h h' (zj8 _ _),zbt hx.2 hy.2 fun _ _=>ziV⟩
 | m x y hx hy=>exact ⟨zbt hx.1 hy.1 fun _ _ h h'=>zj7 _ _ ▸ zii h h',zbt hx.2 hy.2 fun _ _=>zii⟩
 | M x y hx hy=>exact ⟨zbt hx.1 hy.1 fun _ _ h h'=>zj6 _ _ ▸ zik h h',zbt hx.2 hy.2 fun _ _=>zik⟩
 | t x hx=>exact ⟨zbt hx.2 zc7 fun _ _ h h'=>zjx h h' (zqi _),zc7⟩
 | c x hx=>exact ⟨zc7,hx.1⟩
 | g x hx=>exact ⟨zc7,zbt zc7 hx.2 fun _ _ h h'=>by have q:=ziV h h'; rw [Int.zero_sub] at q; exact q⟩
set_option genCtorIdx false in
set_option genSizeOf false in
set_option genInjectivity false in
inductive TP where
 | l (x y:TE) | t (x y:TE) | e (x y:TE) | L (x y:TE) | T (x y:TE) | E (x y:TE) | A (p q:TP) | O (p q:TP) | i (p q:TP) | n (p:TP)
noncomputable def TP.d (r:List Nat):TP→Prop
 | .l x y=>x.n r≤y.n r
 | .t x y=>x.n r < y.n r
 | .e x y=>x.n r=y.n r
 | .L x y=>x.j r≤y.j r
 | .T x y=>x.j r < y.j r
 | .E x y=>x.j r=y.j r
 | .A p q=>p.d r∧q.d r
 | .O p q=>p.d r∨q.d r
 | .i p q=>p.d r→q.d r
 | .n p=>¬ p.d r
noncomputable def leA (b:Bool) (A B:Alt):List (List Ln1):=(csA A B fun l r=>[([if b then sbL r l else sbL (sbL l r) [1]],[])]).map (·.1)
noncomputable def eqA (b:Bool) (A B:Alt):List (List Ln1):=if b then (csA A B fun l r=>[([sbL r l,sbL l r],[])]).map (·.1) else (csA A B fun l r=>[([sbL (sbL l r) [1]],[]),([sbL (sbL r l) [1]],[])]).map (·.1)
noncomputable def anA (a b:List (List Ln1)):List (List Ln1):=a.flatMap fun x=>b.map fun y=>x++y
noncomputable def TP.dn:TP→Bool→List (List Ln1)
 | .l x y,b=>leA b x.ln y.ln
 | .t x y,b=>leA (!b) y.ln x.ln
 | .e x y,b=>eqA b x.ln y.ln
 | .L x y,b=>leA b x.lj y.lj
 | .T x y,b=>leA (!b) y.lj x.lj
 | .E x y,b=>eqA b x.lj y.lj
 | .A p q,b=>if b then anA (p.dn true) (q.dn true) else p.dn false++q.dn false
 | .O p q,b=>if b then p.dn true++q.dn true else anA (p.dn false) (q.dn false)
 | .i p q,b=>if b then p.dn false++q.dn true else anA (p.dn true) (q.dn false)
 | .n p,b=>p.dn (!b)
noncomputable def okD (t:Ln1) (D:List (List Ln1)):Prop:=∃ c ∈ D,okL t c
noncomputable def pol (b:Bool) (p:Prop):Prop:=if b then p else ¬ p
theorem zfl {t:Ln1} {A:Alt} {x:Int} (h:okA t A x):okD t (A.map (·.1)):=h.elim fun p h=>⟨p.1,List.mem_map.mpr ⟨p,h.1,rfl⟩,h.2.1⟩
theorem zir (r:List Nat):dot [1] (vl r)=1:=rfl
theorem zfd {r:List Nat} {A B:Alt} {x y:Int} (b:Bool) (hA:okA (vl r) A x) (hB:okA (vl r) B y) (h:pol b (x≤y)):okD (vl r) (leA b A B):=
 zfl (x:=0) (zbt hA hB fun l r' h1 h2=>⟨_,.head _,.one (by
  induction b
  ·show 0≤dot (sbL (sbL l r') [1]) _
   rw [zbu,zbu,h1,h2,zir]; exact Int.sub_nonneg_of_le (Int.le_sub_left_of_add_le (Int.add_one_le_of_lt (Int.not_le.mp h)))
  ·show 0≤dot (sbL r' l) _
   rw [zbu,h1,h2]; exact Int.sub_nonneg_of_le h),rfl⟩)
theorem zid {r:List Nat} {A B:Alt} {x y:Int} (b:Bool) (hA:okA (vl r) A x) (hB:okA (vl r) B y) (h:pol b (x < y)):okD (vl r) (leA (!b) B A):=
 zfd _ hB hA (by induction b; exact Int.not_lt.mp h; exact Int.not_le.mpr h)
theorem zhF {r:List Nat} {A B:Alt} {x y:Int} (b:Bool) (hA:okA (vl r) A x) (hB:okA (vl r) B y) (h:pol b (x=y)):okD (vl r) (eqA b A B):=by
 have z {l r':Ln1} {u v:Int} (h1:dot l (vl r)=u) (h2:dot r' (vl r)=v) (q:u < v):0≤dot (sbL (sbL r' l) [1]) (vl r):=by
  rw [zbu,zbu,h1,h2,zir]; exact Int.sub_nonneg_of_le (Int.le_sub_left_of_add_le (Int.add_one_le_of_lt q))
 induction b
 ·exact zfl (x:=0) (zbt hA hB fun l r' h1 h2=>(Int.lt_or_gt_of_ne h).elim (fun q=>⟨_,.tail _ (.head _),.one (z h1 h2 q),rfl⟩) fun q=>⟨_,.head _,.one (z h2 h1 q),rfl⟩)
 ·have w {l r':Ln1} (h:dot l (vl r)=dot r' (vl r)):0≤dot (sbL r' l) (vl r):=by rw [zbu,h,Int.sub_self]; exact Int.le_refl 0
  exact zfl (x:=0) (zbt hA hB fun l r' h1 h2=>⟨_,.head _,.app (.one (w (h1.trans (Eq.trans h h2.symm)))) (.one (w (h2.trans (Eq.trans (Eq.symm h) h1.symm)))),rfl⟩)
theorem okD.an {t:Ln1} {a b:List (List Ln1)} (h:okD t a) (h':okD t b):okD t (anA a b):=
 h.elim fun x h=>h'.elim fun y h'=>⟨_,List.mem_flatMap.mpr ⟨x,h.1,List.mem_map.mpr ⟨y,h'.1,rfl⟩⟩,h.2.app h'.2⟩
theorem okD.l {t:Ln1} {a b:List (List Ln1)} (h:okD t a):okD t (a++b):=h.elim fun x h=>⟨x,List.mem_append_left _ h.1,h.2⟩
theorem okD.r {t:Ln1} {a b:List (List Ln1)} (h:okD t b):okD t (a++b):=h.elim fun x h=>⟨x,List.mem_append_right _ h.1,h.2⟩
theorem znK {b:Bool} {x y:Nat} (h:pol b (x≤y)):pol b ((x:Int)≤y):=by induction b; exact fun q=>h (Int.ofNat_le.mp q); exact Int.ofNat_le.mpr h
theorem znL {b:Bool} {x y:Nat} (h:pol b (x < y)):pol b ((x:Int) < y):=by induction b; exact fun q=>h (Int.ofNat_lt.mp q); exact Int.ofNat_lt.mpr h
theorem znJ {b:Bool} {x y:Nat} (h:pol b (x=y)):pol b ((x:Int)=y):=by induction b; exact fun q=>h (Int.ofNat_inj.mp q); exact Int.ofNat_inj.mpr h
theorem TP.ok (r:List Nat) (p:TP):∀ b,pol b (p.d r)→okD (vl r) (p.dn b):=by
 induction p with
 | l x y=>exact fun b h=>zfd b (x.ok r).1 (y.ok r).1 (znK h)
 | t x y=>exact fun b h=>zid b (x.ok r).1 (y.ok r).1 (znL h)
 | e x y=>exact fun b h=>zhF b (x.ok r).1 (y.ok r).1 (znJ h)
 | L x y=>exact fun b h=>zfd b (x.ok r).2 (y.ok r).2 h
 | T x y=>exact fun b h=>zid b (x.ok r).2 (y.ok r).2 h
 | E x y=>exact fun b h=>zhF b (x.ok r).2 (y.ok r).2 h
 | A p q hp hq =>
  intro b h
  induction b
  ·exact (Classical.not_and_iff_not_or_not.mp h).elim (fun h=>(hp false h).l) fun h=>(hq false h).r
  ·exact (hp true h.1).an (hq true h.2)
 | O p q hp hq =>
  intro b h
  induction b
  ·exact (hp false fun z=>h (.inl z)).an (hq false fun z=>h (.inr z))
  ·exact Or.elim h (fun h=>(hp true h).l) fun h=>(hq true h).r
 | i p q hp hq =>
  intro b h
  induction b
  ·exact (hp true (Classical.byContradiction fun z=>h fun y=>absurd y z)).an (hq false fun z=>h fun _=>z)
  ·exact (Classical.em (p.d r)).elim (fun z=>(hq true (h z)).r) fun z=>(hp false z).l
 | n p hp =>
  intro b h
  induction b
  ·exact hp true (Classical.not_not.mp h)
  ·exact hp false h
noncomputable def ngL (c:Ln1):Bool:=decide (c.headD 0 < 0) && c.tail.all (· == 0)
noncomputable def cfL (j:Nat) (c:Ln1):Int:=c.getD j 0
noncomputable def elL (j:Nat) (cs:List Ln1):List Ln1:=cs.filter (cfL j · == 0)++(cs.filter fun c=>decide (0 < cfL j c)).flatMap fun a=>(cs.filter fun c=>decide (cfL j c < 0)).map fun b=>adL (scL ((-cfL j b).toNat:Nat) a) (scL ((cfL j a).toNat:Nat) b)
noncomputable def fmL:Nat→List Ln1→Bool
 | 0,cs=>cs.any ngL
 | n+1,cs=>cs.any ngL || fmL n (elL (n+1) cs)
theorem zhD:∀ (c t:Ln1),c.all (· == 0)=true→dot c t=0
 | [],_,_=>rfl
 | _::_,[],_=>rfl
 | c::a,x::t,h=>by rw [List.all_cons,Bool.and_eq_true,beq_iff_eq] at h; rw [dot,h.1,Int.zero_mul,zhD a t h.2]; rfl
theorem zm0 {c:Ln1} {t:Ln1} (h:ngL c=true):dot c (1::t) < 0:=by
 obtain ⟨h1,h2⟩:=Bool.and_eq_true_iff.mp h
 rcases c with _ | ⟨x,c⟩
 ·exact of_decide_eq_true h1
 ·rw [dot,zhD c t h2,Int.mul_one,Int.add_zero]; exact of_decide_eq_true h1
theorem zfS {r:List Nat} {cs:List Ln1} (h:okL (vl r) cs):cs.any ngL≠true:=fun q=>(List.any_eq_true.mp q).elim fun c q=>Int.not_le.mpr (zm0 q.2) (h c q.1)
theorem zkJ {t:Ln1} {j:Nat} {cs:List Ln1} (h:okL t cs):okL t (elL j cs):=.app (fun c hc=>h c (List.mem_filter.mp hc).1) fun c hc =>
 (List.mem_flatMap.mp hc).elim fun a ha=>(List.mem_map.mp ha.2).elim fun b hb=>by
  rw [← hb.2,zdT,zdU,zdU]
  exact Int.add_nonneg (Int.mul_nonneg (Int.natCast_nonneg _) (h a (List.mem_filter.mp ha.1).1)) (Int.mul_nonneg (Int.natCast_nonneg _) (h b (List.mem_filter.mp hb.1).1))
theorem zhM {r:List Nat}:∀ {n:Nat} {cs:List Ln1},okL (vl r) cs→fmL n cs≠true
 | 0,_,h=>zfS h
 | n+1,cs,h=>fun q=>(Bool.or_eq_true_iff.mp q).elim (zfS h) (zhM (zkJ h))
noncomputable def wdL (cs:List Ln1):Nat:=cs.foldl (fun n c=>max n c.length) 0
noncomputable def adU (cs:List Ln1):List Ln1:=(List.range (wdL cs)).map (fun i=>unL (i+1))++cs
theorem zjN {r:List Nat} {cs:List Ln1} (h:okL (vl r) cs):okL (vl r) (adU cs):=.app (fun c hc=>(List.mem_map.mp hc).elim fun i hi=>by
  rw [← hi.2]; show 0≤0 * 1+dot (unL i) _
  rw [Int.zero_mul,Int.zero_add,zeW]; exact Int.natCast_nonneg _) h
noncomputable def TP.chk (p:TP):Bool:=(p.dn false).all fun cs=>fmL (wdL cs) (adU cs)
noncomputable abbrev Va:=TE.v 0
noncomputable abbrev Vb:=TE.v 1
noncomputable abbrev Vc:=TE.v 2
noncomputable abbrev Vd:=TE.v 3
noncomputable abbrev Ve:=TE.v 4
noncomputable abbrev Vf:=TE.v 5
noncomputable abbrev Vg:=TE.v 6
noncomputable abbrev Vh:=TE.v 7
noncomputable abbrev K0:=TE.k 0
noncomputable abbrev K1:=TE.k 1
noncomputable abbrev K2:=TE.k 2
theorem lin (p:TP) (r:List Nat) (h:p.chk=true):p.d r:=Classical.byContradiction fun q=>(p.ok r false q).elim fun cs k=>zhM (zjN k.2) (List.all_eq_true.mp h cs k.1)
theorem zag {x:Nat} (p:TP) (h:p.chk=true):p.d [x]:=lin p _ h
theorem zad {x y:Nat} (p:TP) (h:p.chk=true):p.d [x,y]:=lin p _ h
theorem zaj {x y z:Nat} (p:TP) (h:p.chk=true):p.d [x,y,z]:=lin p _ h
theorem zaG {x y z u:Nat} (p:TP) (h:p.chk=true):p.d [x,y,z,u]:=lin p _ h
theorem za6 {x y z u v:Nat} (p:TP) (h:p.chk=true):p.d [x,y,z,u,v]:=lin p _ h
theorem zbO {x y z u v w:Nat} (p:TP) (h:p.chk=true):p.d [x,y,z,u,v,w]:=lin p _ h
theorem zbz {x y z u v w s:Nat} (p:TP) (h:p.chk=true):p.d [x,y,z,u,v,w,s]:=lin p _ h
theorem zb6 {x y z u v w s t:Nat} (p:TP) (h:p.chk=true):p.d [x,y,z,u,v,w,s,t]:=lin p _ h
theorem zim (a b:Nat):max (0:Int) ((a:Int) - b)=((a - b:Nat):Int):=by
 rcases Nat.le_total b a with q | q
 ·rw [Int.max_eq_right (Int.sub_nonneg_of_le (Int.ofNat_le.mpr q)),Int.ofNat_sub q]
 ·rw [Int.max_eq_left (Int.sub_nonpos_of_le (Int.ofNat_le.mpr q)),Nat.sub_eq_zero_of_le q]; rfl
theorem n_mt (n:Int):(max 0 n).toNat=n.toNat:=(Int.le_total 0 n).elim (fun h=>by rw [Int.max_eq_right h]) fun h=>by rw [Int.max_eq_left h,Int.toNat_of_nonpos h]; rfl
theorem zbR {n:Nat} (h:n=1∨n=2):1≤n∧n≤2:=zag (.i (.O (.e Va K1) (.e Va K2)) (.A (.l K1 Va) (.l Va K2))) rfl h
theorem zmT (a:Nat):max (0:Int) (a:Int)=(a:Int):=Int.max_eq_right (Int.natCast_nonneg _)
theorem zmU (a b:Nat):min (a:Int) (b:Int)=((min a b:Nat):Int):=by
 rcases Nat.le_total a b with q | q
 ·rw [Int.min_eq_left (Int.ofNat_le.mpr q),Nat.min_eq_left q]
 ·rw [Int.min_eq_right (Int.ofNat_le.mpr q),Nat.min_eq_right q]
theorem zmW {b:Nat} (h:1≤b):(b:Int) - 1=((b - 1:Nat):Int):=(Int.ofNat_sub h).symm
theorem n_at {c r:Nat} (h:c < r):max 0 (min (c:Int) (r - 1))=c:=by
 rw [Int.min_eq_left (Int.le_sub_one_of_lt (Int.ofNat_lt.mpr h)),zmT]
theorem n_1000 {a:Nat} (h:a≤1000):(-1000:Int)≤(a:Int)∧(a:Int)≤1000:=⟨Int.le_trans (by decide) (Int.natCast_nonneg _),Int.ofNat_le.mpr h⟩
theorem zmM {i a b:Nat} (h:i < a - b):b+i < a:=by rw [Nat.add_comm]; exact Nat.add_lt_of_lt_sub h
theorem zfi {a b:Nat} (h:a≤b) (hb:b≤1000):a≤1000000:=Nat.le_trans h (Nat.le_trans hb (by decide))
theorem znB {k rows M t ro:Nat} (hM:M=ro+1+k) (ht:ro+1-rows=t) (t3:M - t≤rows):k+(rows - (M - t))=rows - (ro+1):=by
 rcases Nat.le_total rows (ro+1) with q | q
 ·obtain ⟨d,hd⟩:=Nat.exists_eq_add_of_le q
  rw [hd,Nat.add_sub_cancel_left] at ht
  rw [hM,hd,← ht,Nat.add_right_comm,Nat.add_sub_cancel] at t3
  rw [Nat.le_zero.mp (Nat.add_le_add_iff_left.mp (Nat.le_trans t3 (Nat.le_refl (rows+0)))),Nat.sub_eq_zero_of_le q,Nat.zero_add,Nat.sub_eq_zero_of_le]
  rw [hM,hd,← ht,Nat.add_right_comm,Nat.add_sub_cancel]; exact Nat.le_add_right _ _
 ·rw [Nat.sub_eq_zero_of_le q] at ht
  rw [← ht,Nat.sub_zero,hM] at t3
  rw [← ht,Nat.sub_zero,hM,← Nat.sub_sub,Nat.add_sub_cancel' (Nat.le_sub_of_add_le (Nat.add_comm k _ ▸ t3))]
theorem zil (a:Nat) {b:Nat} (h:1≤b):min (a:Int) ((b:Int) - 1)=((min a (b - 1):Nat):Int):=by rw [zmW h,zmU]
theorem zmX (h r:Nat):((h+r+1:Nat):Int) - 1 - (h:Nat)=(r:Nat):=by exact zad (.E (.s (.s (.c (.a (.a Va Vb) K1)) K1) (.c Va)) (.c Vb)) rfl
theorem zmS {h a r w:Nat} (h1:h=a+1 - r) (h2:h+w=a) (h3:w+1 < r):h=0∧a+2≤r:=by
 rcases Nat.le_total (a+1) r with q | q
 ·have z:h=0:=h1.trans (Nat.sub_eq_zero_of_le q)
  rw [z,Nat.zero_add] at h2
  exact ⟨z,h2 ▸ h3⟩
 ·have z:=Nat.sub_add_cancel q
  rw [← h1,← h2,Nat.add_assoc] at z
  exact absurd (Nat.add_left_cancel z) (Nat.ne_of_gt h3)
theorem zmR {h a r w:Nat} (h2:h+w=a) (h3:r=w+1):a+2 - r=h+1∧r≤a+1:=by
 subst h2; subst h3
 exact ⟨by exact zad (.e (.s (.a (.a Va Vb) K2) (.a Vb K1)) (.a Va K1)) rfl,by exact zad (.l (.a Va K1) (.a (.a Vb Va) K1)) rfl⟩
theorem zmV {r a:Nat} (h:a+2≤r):r - (a+1)=r - (a+2)+1:=by
 obtain ⟨d,rfl⟩:=Nat.exists_eq_add_of_le h
 rw [Nat.add_sub_cancel_left]; exact Nat.sub_eq_of_eq_add (zad (.e (.a (.a Va K2) Vb) (.a (.a Vb K1) (.a Va K1))) rfl)
theorem zmN {c a w n:Nat} (h:c=min (a+w) (n - 1)) (q:a+w=n):c=a+w - 1:=by rw [h,← q,Nat.min_eq_right (Nat.sub_le _ _)]
theorem zmO {c a w n:Nat} (h:c=min (a+w) (n - 1)) (q:¬ a+w=n) (p:a+w≤n):c=a+w:=h.trans (Nat.min_eq_left (Nat.le_sub_one_of_lt (Nat.lt_of_le_of_ne p q)))
theorem zmP {a b:Nat} (h:1≤b):((a+b:Nat):Int) - 1=((a+b - 1:Nat):Int):=(Int.ofNat_sub (Nat.le_add_left_of_le h)).symm
theorem zmQ {a b:Nat} (h:b=2):((a+b - 1:Nat):Int) - 1=((a+b - 2:Nat):Int):=by subst h; exact Int.add_sub_cancel (a:Int) 1
theorem zoy:PySem.W.Fast.tw12908688711261696721 PySem.Challenge.rw_rh0243_01.prog=true:=by
 unfold PySem.W.Fast.tw12908688711261696721
 iterate 5 refine look_both ?_ ?_
 all_goals decide +kernel
theorem zoz:PySem.W.Fast.tw17960256430627541270 (PySem.W.Fast.tw2368527892694137696 PySem.Challenge.rw_rh0243_01)=true:=by
 unfold PySem.W.Fast.tw17960256430627541270 PySem.W.Fast.tw2436336058641802641
 refine look_both (look_both ?_ ?_) ?_
 iterate 13 refine look_both ?_ ?_
 ·exact zoy
 all_goals decide +kernel
theorem said:OpenLaw.wellSaid PySem.Challenge.rw_rh0243_01=true:=by
 rw [PySem.W.Fast.te9446332074065402090]
 unfold PySem.W.Fast.tw9446332074065402090
 iterate 18 refine look_both ?_ ?_
 ·exact zoz
 all_goals decide +kernel
noncomputable abbrev S (x:String):Str:=Str.ofString x
noncomputable def dg (i j:Nat):Stmt:=
 match PySem.Challenge.pw_rh0243_01.main.body[i]? with
 | some (.ClassDef _ _ _ b _ _ _ _ _ _ _)=>(b[j]?).getD (.Pass default)
 | some s=>s
 | none=>.Pass default
noncomputable def zb3:Stmt→Str | .FunctionDef n _ _ _ _ _ _ _ _ _=>n | _=>Str.empty
noncomputable def zcd:Stmt→Arguments | .FunctionDef _ a _ _ _ _ _ _ _ _=>a | _=>default
noncomputable def zbL:Stmt→List Stmt | .FunctionDef _ _ b _ _ _ _ _ _ _=>b | _=>[]
noncomputable def zaL:Stmt→Scope | .FunctionDef _ _ _ _ _ _ s _ _ _=>s | _=>default
noncomputable def fo (i j:Nat) (qual:Str) (dV pm cd:Value):Obj:=
 ⟨.type "function",none,.func (fnOf (zb3 (dg i j)) qual (zcd (dg i j)) (zbL (dg i j)) (zaL (dg i j)) dV .none .none pm none cd .none),#[]⟩
noncomputable def co (n:Str) (a ns t u:Nat):Obj:=
 ⟨.type "type",none,.cls { name:=n,bases:=[.type "object"],mro:=[.ref a,.type "object"],ns:=ns,qualname:=n },#[none,none,some (.str n t),some (.str n u),some (.builtin "object.__new__"),some (.bool true)]⟩
noncomputable def no (P:Params) (es:List (Str × Nat × Value)) (n:Nat):Obj:=
 ⟨.type "dict",none,.dict (es.map fun e=>⟨PyData.keyHash P e.1,.str e.1 e.2.1,e.2.2⟩).toArray n,#[]⟩
noncomputable def tu (vs:List Value) (n:Nat):Obj:=⟨.type "tuple",none,.seq vs.toArray n,#[]⟩
noncomputable def KF (P:Params):Frag:=[
 (2,⟨.none,none,(no P [(S "type.__subclasses__.Exception.0",231,.int 40 0),(S "type.__subclasses__.Exception.n",232,.int 1 0)] 2).data,#[]⟩),
 (3,no P [(S "__name__",165,.str (S "law_rh0243_01") 2208),(S "__doc__",166,.none),(S "__package__",167,.none),(S "__loader__",168,.builtin "__main__.__loader__#opaque"),(S "__spec__",169,.none),(S "__annotations__",170,.ref 6),(S "__builtins__",171,.ref 4),(S "__file__",173,.str (S "/claim/cut.py") 172),(S "__cached__",174,.none),(S "_wall",193,.ref 21),(S "NO_COLOUR",198,.int (-1) 197),(S "PLAIN",201,.ref 22),(S "BACK",203,.int 2 202),(S "BLANK",205,.int 32 204),(S "TermError",234,.ref 40),(S "BadSize",250,.ref 53),(S "clamp",259,.ref 62),(S "erased_pen",266,.ref 69),(S "blank_cell",273,.ref 76),(S "is_blank",280,.ref 83),(S "is_plain_blank",287,.ref 90),(S "LINE_SIZES",294,.ref 91),(S "line_blanks",302,.ref 98),(S "right_half",309,.ref 105),(S "line_part",317,.ref 112),(S "line_slice",327,.ref 119),(S "line_codes",337,.ref 126),(S "Line",517,.ref 251),(S "Grid",727,.ref 396),(S "grid_cut",734,.ref 407),(S "grid_mended",742,.ref 414),(S "SINGLE",746,.str (S "single") 745),(S "History",828,.ref 478),(S "reflow_lines_equal",834,.ref 487),(S "LogicalLine",902,.ref 532),(S "reflow_used",910,.ref 543),(S "reflow_begins_wide",917,.ref 550),(S "reflow_part",926,.ref 557),(S "reflow_goes_on",934,.ref 564),(S "logical_of",944,.ref 571),(S "cut_with_places",960,.ref 578),(S "reflow_place",969,.ref 585),(S "reflow_line",981,.ref 592),(S "Cutting",1078,.ref 644),(S "reflow_cutting",1090,.ref 655),(S "reflowed",1105,.ref 662),(S "WIDTH_JOINER",1109,.int 8205 1108),(S "WIDTH_PICTURE",1111,.int 65039 1110),(S "WIDTH_KEYCAP",1113,.int 8419 1112),(S "FIRST_MODIFIER",1116,.int 127995 1114),(S "LAST_MODIFIER",1117,.int 127999 1115),(S "FIRST_REGION",1120,.int 127462 1118),(S "LAST_REGION",1121,.int 127487 1119),(S "WIDTH_KEYS",1134,.ref 671),(S "width_in_ranges",1145,.ref 678),(S "width_check_ranges",1156,.ref 685),(S "WidthTable",1206,.ref 716),(S "is_region",1213,.ref 727),(S "is_modifier",1220,.ref 734),(S "width_bare",1227,.ref 741),(S "joins",1233,.ref 746),(S "cluster_width",1239,.ref 751),(S "MOUSE_MODES",1246,.ref 752),(S "MOUSE_ENCODINGS",1251,.ref 753),(S "FIRST_ON",1257,.ref 754),(S "modes_group",1264,.ref 761),(S "Modes",1312,.ref 792),(S "ASCII_SET",1316,.bytes #[66] 1315),(S "SUPPLEMENT_SET",1318,.bytes #[37,53] 1317),(S "LATIN_SET",1320,.bytes #[45,65] 1319),(S "LEFT_FIRST",1322,.int 32 1321),(S "LEFT_LAST",1324,.int 127 1323),(S "RIGHT_FIRST",1326,.int 160 1325),(S "RIGHT_LAST",1328,.int 255 1327),(S "HIGH_BIT",1330,.int 128 1329),(S "charset_pairs",1338,.ref 803),(S "charset_drawing",1345,.ref 810),(S "charset_supplement",1354,.ref 817),(S "charset_national",1361,.ref 824),(S "charset_table",1368,.ref 831),(S "Charsets",1482,.ref 920),(S "charset_on_right",1491,.ref 931),(S "TAB_WIDTH",1495,.int 8 1494),(S "Cursor",1560,.ref 976),(S "Margins",1722,.ref 1109),(S "Tabs",1844,.ref 1208),(S "WIDE_SIZES",1850,.ref 1213),(S "Screen",2191,.ref 1485),(S "terminal_fit",2207,.ref 1496),(S "_law_bare",2219,.ref 1499),(S "_law_looks",2242,.ref 1503),(S "_law_take",2251,.ref 1510),(S "_law_screen",2259,.ref 1517),(S "_law_written",2268,.ref 1524),(S "_law_group",2282,.ref 1531),(S "_law_texts",2295,.ref 1538),(S "_law_laid",2310,.ref 1545),(S "_law_seen",2316,.ref 1550),(S "_law_is_so",2322,.ref 1555),(S "law",2328,.ref 1560)] 100),
 (22,tu [.int (0) 199,.int (-1) 197,.int (-1) 197,.int (-1) 197,.int 0 200] 0),
 (62,fo 8 1000 (S "clamp") (.none) (.str (S "termcore.base") 194) (.ref 61)),
 (69,fo 9 1000 (S "erased_pen") (.none) (.str (S "termcore.base") 194) (.ref 68)),
 (76,fo 10 1000 (S "blank_cell") (.none) (.str (S "termcore.base") 194) (.ref 75)),
 (83,fo 11 1000 (S "is_blank") (.none) (.str (S "termcore.base") 194) (.ref 82)),
 (90,fo 12 1000 (S "is_plain_blank") (.none) (.str (S "termcore.base") 194) (.ref 89)),
 (91,tu [.str (S "single") 290,.str (S "wide") 291,.str (S "top") 292,.str (S "bottom") 293] 0),
 (98,fo 15 1000 (S "line_blanks") (.none) (.str (S "termcore.lines") 288) (.ref 97)),
 (105,fo 16 1000 (S "right_half") (.none) (.str (S "termcore.lines") 288) (.ref 104)),
 (112,fo 17 1000 (S "line_part") (.none) (.str (S "termcore.lines") 288) (.ref 111)),
 (140,fo 20 0 (S "Line.__init__") (.none) (.str (S "termcore.lines") 288) (.ref 139)),
 (162,fo 20 3 (S "Line.part") (.none) (.str (S "termcore.lines") 288) (.ref 161)),
 (169,fo 20 4 (S "Line.put") (.none) (.str (S "termcore.lines") 288) (.ref 168)),
 (248,fo 20 15 (S "Line.equals") (.none) (.str (S "termcore.lines") 288) (.ref 247)),
 (250,no P [(S "__module__",345,.str (S "termcore.lines") 288),(S "__firstlineno__",349,.int 51 348),(S "__init__",358,.ref 140),(S "columns",366,.ref 148),(S "shown",373,.ref 155),(S "part",381,.ref 162),(S "put",390,.ref 169),(S "put_cells",400,.ref 176),(S "erase",413,.ref 184),(S "shift",430,.ref 191),(S "insert",441,.ref 198),(S "delete",452,.ref 205),(S "fill",462,.ref 212),(S "copy",470,.ref 219),(S "codes",480,.ref 227),(S "used",488,.ref 234),(S "resized",498,.ref 241),(S "equals",506,.ref 248),(S "__static_attributes__",510,.ref 249),(S "__dict__",512,.ref 252),(S "__weakref__",514,.ref 253),(S "__doc__",515,.none)] 4),
 (251,co (S "Line") 251 250 338 346),
 (267,fo 22 0 (S "Grid.__init__") (.none) (.str (S "termcore.grid") 518) (.ref 266)),
 (274,fo 22 1 (S "Grid.line") (.none) (.str (S "termcore.grid") 518) (.ref 273)),
 (288,fo 22 3 (S "Grid.is_wide") (.none) (.str (S "termcore.grid") 518) (.ref 287)),
 (293,fo 22 4 (S "Grid.fresh") (.none) (.str (S "termcore.grid") 518) (.ref 292)),
 (300,fo 22 5 (S "Grid.part_above") (.none) (.str (S "termcore.grid") 518) (.ref 299)),
 (307,fo 22 6 (S "Grid.scroll_up") (.none) (.str (S "termcore.grid") 518) (.ref 306)),
 (388,fo 22 18 (S "Grid.equals") (.none) (.str (S "termcore.grid") 518) (.ref 387)),
 (395,no P [(S "__module__",527,.str (S "termcore.grid") 518),(S "__firstlineno__",531,.int 151 530),(S "__init__",537,.ref 267),(S "line",545,.ref 274),(S "whole_area",552,.ref 281),(S "is_wide",560,.ref 288),(S "fresh",566,.ref 293),(S "part_above",574,.ref 300),(S "scroll_up",591,.ref 307),(S "scroll_down",601,.ref 314),(S "unwrap",610,.ref 321),(S "insert_columns",621,.ref 328),(S "delete_columns",632,.ref 335),(S "cells_of",642,.ref 342),(S "put_cells",656,.ref 349),(S "erase_area",671,.ref 357),(S "fill_area",680,.ref 364),(S "copy_area",690,.ref 371),(S "cells_in",698,.ref 378),(S "copy",704,.ref 383),(S "equals",710,.ref 388),(S "text",716,.ref 393),(S "__static_attributes__",720,.ref 394),(S "__dict__",722,.ref 397),(S "__weakref__",724,.ref 398),(S "__doc__",725,.none)] 4),
 (396,co (S "Grid") 396 395 520 528),
 (428,fo 27 0 (S "History.__init__") (.none) (.str (S "termcore.reflow") 743) (.ref 427)),
 (442,fo 27 2 (S "History.push") (.none) (.str (S "termcore.reflow") 743) (.ref 441)),
 (475,fo 27 7 (S "History.equals") (.none) (.str (S "termcore.reflow") 743) (.ref 474)),
 (477,no P [(S "__module__",754,.str (S "termcore.reflow") 743),(S "__firstlineno__",758,.int 265 757),(S "__init__",766,.ref 428),(S "many",773,.ref 435),(S "push",781,.ref 442),(S "pop",788,.ref 449),(S "clear",795,.ref 456),(S "trimmed",803,.ref 463),(S "copy",809,.ref 468),(S "equals",817,.ref 475),(S "__static_attributes__",821,.ref 476),(S "__dict__",823,.ref 479),(S "__weakref__",825,.ref 480),(S "__doc__",826,.none)] 4),
 (478,co (S "History") 478 477 747 755),
 (487,fo 28 1000 (S "reflow_lines_equal") (.none) (.str (S "termcore.reflow") 743) (.ref 486)),
 (501,fo 29 0 (S "LogicalLine.__init__") (.none) (.str (S "termcore.reflow") 743) (.ref 500)),
 (508,fo 29 1 (S "LogicalLine.put") (.none) (.str (S "termcore.reflow") 743) (.ref 507)),
 (515,fo 29 2 (S "LogicalLine.kept_to") (.none) (.str (S "termcore.reflow") 743) (.ref 514)),
 (522,fo 29 3 (S "LogicalLine.size_of") (.none) (.str (S "termcore.reflow") 743) (.ref 521)),
 (529,fo 29 4 (S "LogicalLine.offset_of") (.none) (.str (S "termcore.reflow") 743) (.ref 528)),
 (531,no P [(S "__module__",842,.str (S "termcore.reflow") 743),(S "__firstlineno__",846,.int 303 845),(S "__init__",855,.ref 501),(S "put",863,.ref 508),(S "kept_to",871,.ref 515),(S "size_of",879,.ref 522),(S "offset_of",889,.ref 529),(S "__static_attributes__",895,.ref 530),(S "__dict__",897,.ref 533),(S "__weakref__",899,.ref 534),(S "__doc__",900,.none)] 4),
 (532,co (S "LogicalLine") 532 531 835 843),
 (543,fo 30 1000 (S "reflow_used") (.none) (.str (S "termcore.reflow") 743) (.ref 542)),
 (550,fo 31 1000 (S "reflow_begins_wide") (.none) (.str (S "termcore.reflow") 743) (.ref 549)),
 (557,fo 32 1000 (S "reflow_part") (.none) (.str (S "termcore.reflow") 743) (.ref 556)),
 (564,fo 33 1000 (S "reflow_goes_on") (.none) (.str (S "termcore.reflow") 743) (.ref 563)),
 (571,fo 34 1000 (S "logical_of") (.none) (.str (S "termcore.reflow") 743) (.ref 570)),
 (578,fo 35 1000 (S "cut_with_places") (.none) (.str (S "termcore.reflow") 743) (.ref 577)),
 (585,fo 36 1000 (S "reflow_place") (.none) (.str (S "termcore.reflow") 743) (.ref 584)),
 (592,fo 37 1000 (S "reflow_line") (.none) (.str (S "termcore.reflow") 743) (.ref 591)),
 (606,fo 38 0 (S "Cutting.__init__") (.none) (.str (S "termcore.reflow") 743) (.ref 605)),
 (613,fo 38 1 (S "Cutting.put") (.none) (.str (S "termcore.reflow") 743) (.ref 612)),
 (620,fo 38 2 (S "Cutting.go_behind") (.none) (.str (S "termcore.reflow") 743) (.ref 619)),
 (634,fo 38 4 (S "Cutting.give_up") (.none) (.str (S "termcore.reflow") 743) (.ref 633)),
 (641,fo 38 5 (S "Cutting.top") (.none) (.str (S "termcore.reflow") 743) (.ref 640)),
 (643,no P [(S "__module__",989,.str (S "termcore.reflow") 743),(S "__firstlineno__",993,.int 387 992),(S "__init__",1005,.ref 606),(S "put",1030,.ref 613),(S "go_behind",1037,.ref 620),(S "place_of",1046,.ref 627),(S "give_up",1055,.ref 634),(S "top",1063,.ref 641),(S "__static_attributes__",1071,.ref 642),(S "__dict__",1073,.ref 645),(S "__weakref__",1075,.ref 646),(S "__doc__",1076,.none)] 4),
 (644,co (S "Cutting") 644 643 982 990),
 (655,fo 39 1000 (S "reflow_cutting") (.none) (.str (S "termcore.reflow") 743) (.ref 654)),
 (662,fo 40 1000 (S "reflowed") (.none) (.str (S "termcore.reflow") 743) (.ref 661)),
 (678,fo 48 1000 (S "width_in_ranges") (.none) (.str (S "termcore.cellwidths") 1106) (.ref 677)),
 (685,fo 49 1000 (S "width_check_ranges") (.none) (.str (S "termcore.cellwidths") 1106) (.ref 684)),
 (699,fo 50 0 (S "WidthTable.__init__") (.none) (.str (S "termcore.cellwidths") 1106) (.ref 698)),
 (706,fo 50 1 (S "WidthTable.width_of") (.none) (.str (S "termcore.cellwidths") 1106) (.ref 705)),
 (715,no P [(S "__module__",1164,.str (S "termcore.cellwidths") 1106),(S "__firstlineno__",1168,.int 499 1167),(S "__init__",1179,.ref 699),(S "width_of",1187,.ref 706),(S "is_picture",1195,.ref 713),(S "__static_attributes__",1199,.ref 714),(S "__dict__",1201,.ref 717),(S "__weakref__",1203,.ref 718),(S "__doc__",1204,.none)] 4),
 (716,co (S "WidthTable") 716 715 1157 1165),
 (754,tu [.str (S "send_receive") 1252,.str (S "autowrap") 1253,.str (S "autorepeat") 1254,.str (S "show_cursor") 1255,.str (S "num_lock") 1256] 0),
 (775,fo 61 0 (S "Modes.__init__") (.none) (.str (S "termcore.modes") 1240) (.ref 774)),
 (782,fo 61 1 (S "Modes.is_on") (.none) (.str (S "termcore.modes") 1240) (.ref 781)),
 (791,no P [(S "__module__",1272,.str (S "termcore.modes") 1240),(S "__firstlineno__",1276,.int 547 1275),(S "__init__",1284,.ref 775),(S "is_on",1292,.ref 782),(S "set",1302,.ref 789),(S "__static_attributes__",1305,.ref 790),(S "__dict__",1307,.ref 793),(S "__weakref__",1309,.ref 794),(S "__doc__",1310,.none)] 4),
 (792,co (S "Modes") 792 791 1265 1273),
 (831,fo 75 1000 (S "charset_table") (.none) (.str (S "termcore.charsets") 1313) (.ref 830)),
 (839,tu [.none] 0),
 (846,fo 76 0 (S "Charsets.__init__") (.ref 839) (.str (S "termcore.charsets") 1313) (.ref 845)),
 (853,fo 76 1 (S "Charsets.table") (.none) (.str (S "termcore.charsets") 1313) (.ref 852)),
 (860,fo 76 2 (S "Charsets.reset") (.none) (.str (S "termcore.charsets") 1313) (.ref 859)),
 (903,tu [.bool false] 0),
 (910,fo 76 9 (S "Charsets.mapped") (.ref 903) (.str (S "termcore.charsets") 1313) (.ref 909)),
 (919,no P [(S "__module__",1376,.str (S "termcore.charsets") 1313),(S "__firstlineno__",1380,.int 624 1379),(S "__init__",1388,.ref 846),(S "table",1396,.ref 853),(S "reset",1403,.ref 860),(S "copy",1411,.ref 867),(S "designate",1420,.ref 874),(S "shift_in",1427,.ref 881),(S "shift_out",1434,.ref 888),(S "lock",1443,.ref 895),(S "single",1451,.ref 902),(S "mapped",1462,.ref 910),(S "is_plain",1469,.ref 917),(S "__static_attributes__",1475,.ref 918),(S "__dict__",1477,.ref 921),(S "__weakref__",1479,.ref 922),(S "__doc__",1480,.none)] 4),
 (920,co (S "Charsets") 920 919 1369 1377),
 (945,fo 80 0 (S "Cursor.__init__") (.none) (.str (S "termcore.cursor") 1492) (.ref 944)),
 (966,fo 80 3 (S "Cursor.place") (.none) (.str (S "termcore.cursor") 1492) (.ref 965)),
 (973,fo 80 4 (S "Cursor.equals") (.none) (.str (S "termcore.cursor") 1492) (.ref 972)),
 (975,no P [(S "__module__",1503,.str (S "termcore.cursor") 1492),(S "__firstlineno__",1507,.int 682 1506),(S "__init__",1514,.ref 945),(S "copy",1522,.ref 952),(S "go",1531,.ref 959),(S "place",1538,.ref 966),(S "equals",1546,.ref 973),(S "__static_attributes__",1553,.ref 974),(S "__dict__",1555,.ref 977),(S "__weakref__",1557,.ref 978),(S "__doc__",1558,.none)] 4),
 (976,co (S "Cursor") 976 975 1496 1504),
 (994,fo 81 0 (S "Margins.__init__") (.none) (.str (S "termcore.cursor") 1492) (.ref 993)),
 (1036,fo 81 6 (S "Margins.area") (.none) (.str (S "termcore.cursor") 1492) (.ref 1035)),
 (1108,no P [(S "__module__",1568,.str (S "termcore.cursor") 1492),(S "__firstlineno__",1572,.int 714 1571),(S "__init__",1581,.ref 994),(S "set_rows",1590,.ref 1001),(S "set_columns",1599,.ref 1008),(S "clear_rows",1606,.ref 1015),(S "clear_columns",1613,.ref 1022),(S "resize",1622,.ref 1029),(S "area",1629,.ref 1036),(S "holds",1638,.ref 1043),(S "holds_row",1646,.ref 1050),(S "holds_column",1654,.ref 1057),(S "is_whole_width",1661,.ref 1064),(S "is_whole",1668,.ref 1071),(S "first_row",1676,.ref 1078),(S "last_row",1684,.ref 1085),(S "first_column",1692,.ref 1092),(S "last_column",1700,.ref 1099),(S "copy",1708,.ref 1106),(S "__static_attributes__",1715,.ref 1107),(S "__dict__",1717,.ref 1110),(S "__weakref__",1719,.ref 1111),(S "__doc__",1720,.none)] 4),
 (1109,co (S "Margins") 1109 1108 1561 1569),
 (1127,fo 82 0 (S "Tabs.__init__") (.none) (.str (S "termcore.cursor") 1492) (.ref 1126)),
 (1134,fo 82 1 (S "Tabs.put_eighths") (.none) (.str (S "termcore.cursor") 1492) (.ref 1133)),
 (1169,fo 82 6 (S "Tabs.told") (.none) (.str (S "termcore.cursor") 1492) (.ref 1168)),
 (1198,fo 82 10 (S "Tabs.resize") (.none) (.str (S "termcore.cursor") 1492) (.ref 1197)),
 (1207,no P [(S "__module__",1730,.str (S "termcore.cursor") 1492),(S "__firstlineno__",1734,.int 781 1733),(S "__init__",1742,.ref 1127),(S "put_eighths",1751,.ref 1134),(S "set",1759,.ref 1141),(S "clear",1767,.ref 1148),(S "clear_all",1774,.ref 1155),(S "reset",1781,.ref 1162),(S "told",1788,.ref 1169),(S "put",1797,.ref 1176),(S "next_from",1806,.ref 1183),(S "back_from",1816,.ref 1191),(S "resize",1826,.ref 1198),(S "copy",1834,.ref 1205),(S "__static_attributes__",1837,.ref 1206),(S "__dict__",1839,.ref 1209),(S "__weakref__",1841,.ref 1210),(S "__doc__",1842,.none)] 4),
 (1208,co (S "Tabs") 1208 1207 1723 1731),
 (1213,tu [.str (S "wide") 1847,.str (S "top") 1848,.str (S "bottom") 1849] 0),
 (1221,tu [.none] 0),
 (1228,fo 85 0 (S "Screen.__init__") (.ref 1221) (.str (S "termcore.screen") 1845) (.ref 1227)),
 (1235,fo 85 1 (S "Screen.line") (.none) (.str (S "termcore.screen") 1845) (.ref 1234)),
 (1242,fo 85 2 (S "Screen.width_of_line") (.none) (.str (S "termcore.screen") 1845) (.ref 1241)),
 (1249,fo 85 3 (S "Screen.right_bound") (.none) (.str (S "termcore.screen") 1845) (.ref 1248)),
 (1256,fo 85 4 (S "Screen.left_bound") (.none) (.str (S "termcore.screen") 1845) (.ref 1255)),
 (1263,fo 85 5 (S "Screen.is_between_sides") (.none) (.str (S "termcore.screen") 1845) (.ref 1262)),
 (1270,fo 85 6 (S "Screen.is_whole") (.none) (.str (S "termcore.screen") 1845) (.ref 1269)),
 (1277,fo 85 7 (S "Screen.place") (.none) (.str (S "termcore.screen") 1845) (.ref 1276)),
 (1284,fo 85 8 (S "Screen.put_code") (.none) (.str (S "termcore.screen") 1845) (.ref 1283)),
 (1291,fo 85 9 (S "Screen.place_ahead") (.none) (.str (S "termcore.screen") 1845) (.ref 1290)),
 (1305,fo 85 11 (S "Screen.join") (.none) (.str (S "termcore.screen") 1845) (.ref 1304)),
 (1312,fo 85 12 (S "Screen.is_narrow") (.none) (.str (S "termcore.screen") 1845) (.ref 1311)),
 (1319,fo 85 13 (S "Screen.put_sign") (.none) (.str (S "termcore.screen") 1845) (.ref 1318)),
 (1326,fo 85 14 (S "Screen.advance") (.none) (.str (S "termcore.screen") 1845) (.ref 1325)),
 (1333,fo 85 15 (S "Screen.wrap") (.none) (.str (S "termcore.screen") 1845) (.ref 1332)),
 (1347,fo 85 17 (S "Screen.scroll_up") (.none) (.str (S "termcore.screen") 1845) (.ref 1346)),
 (1361,fo 85 19 (S "Screen.index") (.none) (.str (S "termcore.screen") 1845) (.ref 1360)),
 (1375,fo 85 21 (S "Screen.keep_within_line") (.none) (.str (S "termcore.screen") 1845) (.ref 1374)),
 (1382,fo 85 22 (S "Screen.carriage_return") (.none) (.str (S "termcore.screen") 1845) (.ref 1381)),
 (1389,fo 85 23 (S "Screen.next_line") (.none) (.str (S "termcore.screen") 1845) (.ref 1388)),
 (1484,no P [(S "__module__",1858,.str (S "termcore.screen") 1845),(S "__firstlineno__",1862,.int 836 1861),(S "__init__",1874,.ref 1228),(S "line",1881,.ref 1235),(S "width_of_line",1889,.ref 1242),(S "right_bound",1897,.ref 1249),(S "left_bound",1904,.ref 1256),(S "is_between_sides",1911,.ref 1263),(S "is_whole",1918,.ref 1270),(S "place",1927,.ref 1277),(S "put_code",1937,.ref 1284),(S "place_ahead",1946,.ref 1291),(S "is_joined",1955,.ref 1298),(S "join",1969,.ref 1305),(S "is_narrow",1977,.ref 1312),(S "put_sign",1988,.ref 1319),(S "advance",1998,.ref 1326),(S "wrap",2009,.ref 1333),(S "repeat",2017,.ref 1340),(S "scroll_up",2027,.ref 1347),(S "scroll_down",2035,.ref 1354),(S "index",2042,.ref 1361),(S "reverse_index",2049,.ref 1368),(S "keep_within_line",2056,.ref 1375),(S "carriage_return",2063,.ref 1382),(S "next_line",2070,.ref 1389),(S "backspace",2077,.ref 1396),(S "tab",2086,.ref 1404),(S "back_tab",2095,.ref 1412),(S "save_cursor",2102,.ref 1419),(S "restore_cursor",2109,.ref 1426),(S "home",2116,.ref 1433),(S "set_margins",2125,.ref 1440),(S "set_side_margins",2134,.ref 1447),(S "line_size",2142,.ref 1454),(S "align",2149,.ref 1461),(S "soft_reset",2156,.ref 1468),(S "full_reset",2163,.ref 1475),(S "blank",2170,.ref 1482),(S "__static_attributes__",2184,.ref 1483),(S "__dict__",2186,.ref 1486),(S "__weakref__",2188,.ref 1487),(S "__doc__",2189,.none)] 4),
 (1485,co (S "Screen") 1485 1484 1851 1859),
 (1496,fo 87 1000 (S "terminal_fit") (.none) (.str (S "termcore.terminal") 2192) (.ref 1495)),
 (1497,tu [] 0),
 (1498,tu [.int (0) 2211,.int (-1) 2213,.int (-1) 2215,.int (-1) 2217,.int 0 2218] 0),
 (1499,tu [.ref 1497,.int 1 2210,.ref 1498,.bool false] 0),
 (1500,tu [.int (0) 2220,.int (-1) 2222,.int (-1) 2224,.int (-1) 2226,.int 0 2227] 0),
 (1501,tu [.int (1) 2228,.int 3 2229,.int (-1) 2231,.int (-1) 2233,.int 0 2234] 0),
 (1502,tu [.int (4) 2235,.int (-1) 2237,.int (-1) 2239,.int 5 2240,.int 0 2241] 0),
 (1503,tu [.ref 1500,.ref 1501,.ref 1502] 0),
 (1510,fo 91 1000 (S "_law_take") (.none) (.str (S "law_rh0243_01") 2208) (.ref 1509)),
 (1517,fo 92 1000 (S "_law_screen") (.none) (.str (S "law_rh0243_01") 2208) (.ref 1516)),
 (1524,fo 93 1000 (S "_law_written") (.none) (.str (S "law_rh0243_01") 2208) (.ref 1523)),
 (1531,fo 94 1000 (S "_law_group") (.none) (.str (S "law_rh0243_01") 2208) (.ref 1530)),
 (1538,fo 95 1000 (S "_law_texts") (.none) (.str (S "law_rh0243_01") 2208) (.ref 1537)),
 (1545,fo 96 1000 (S "_law_laid") (.none) (.str (S "law_rh0243_01") 2208) (.ref 1544)),
 (1550,fo 97 1000 (S "_law_seen") (.none) (.str (S "law_rh0243_01") 2208) (.ref 1549)),
 (1555,fo 98 1000 (S "_law_is_so") (.none) (.str (S "law_rh0243_01") 2208) (.ref 1554)),
 (1560,fo 99 1000 (S "law") (.none) (.str (S "law_rh0243_01") 2208) (.ref 1559))]
noncomputable def KA:List Nat:=[2,3,22,62,69,76,83,90,91,98,105,112,140,162,169,248,250,251,267,274,288,293,300,307,388,395,396,428,442,475,477,478,487,501,508,515,522,529,531,532,543,550,557,564,571,578,585,592,606,613,620,634,641,643,644,655,662,678,685,699,706,715,716,754,775,782,791,792,831,839,846,853,860,903,910,919,920,945,966,973,975,976,994,1036,1108,1109,1127,1134,1169,1198,1207,1208,1213,1221,1228,1235,1242,1249,1256,1263,1270,1277,1284,1291,1305,1312,1319,1326,1333,1347,1361,1375,1382,1389,1484,1485,1496,1497,1498,1499,1500,1501,1502,1503,1510,1517,1524,1531,1538,1545,1550,1555,1560]
noncomputable def CA:List Nat:=[61,68,75,82,89,97,104,111,139,161,168,247,266,273,287,292,299,306,387,427,441,474,486,500,507,514,521,528,542,549,556,563,570,577,584,591,605,612,619,633,640,654,661,677,684,698,705,774,781,830,845,852,859,909,944,965,972,993,1035,1126,1133,1168,1197,1227,1234,1241,1248,1255,1262,1269,1276,1283,1290,1304,1311,1318,1325,1332,1346,1360,1374,1381,1388,1495,1509,1516,1523,1530,1537,1544,1549,1554,1559]
noncomputable def CQ:List (Option Value):=[
 some (.str (S "clamp") 252),
 some (.str (S "erased_pen") 261),
 some (.str (S "blank_cell") 268),
 some (.str (S "is_blank") 275),
 some (.str (S "is_plain_blank") 282),
 some (.str (S "line_blanks") 296),
 some (.str (S "right_half") 304),
 some (.str (S "line_part") 311),
 some (.str (S "Line.__init__") 351),
 some (.str (S "Line.part") 375),
 some (.str (S "Line.put") 383),
 some (.str (S "Line.equals") 500),
 some (.str (S "Grid.__init__") 533),
 some (.str (S "Grid.line") 539),
 some (.str (S "Grid.is_wide") 554),
 some (.str (S "Grid.fresh") 562),
 some (.str (S "Grid.part_above") 568),
 some (.str (S "Grid.scroll_up") 576),
 some (.str (S "Grid.equals") 706),
 some (.str (S "History.__init__") 760),
 some (.str (S "History.push") 775),
 some (.str (S "History.equals") 811),
 some (.str (S "reflow_lines_equal") 830),
 some (.str (S "LogicalLine.__init__") 848),
 some (.str (S "LogicalLine.put") 857),
 some (.str (S "LogicalLine.kept_to") 865),
 some (.str (S "LogicalLine.size_of") 873),
 some (.str (S "LogicalLine.offset_of") 881),
 some (.str (S "reflow_used") 904),
 some (.str (S "reflow_begins_wide") 912),
 some (.str (S "reflow_part") 919),
 some (.str (S "reflow_goes_on") 928),
 some (.str (S "logical_of") 936),
 some (.str (S "cut_with_places") 946),
 some (.str (S "reflow_place") 962),
 some (.str (S "reflow_line") 971),
 some (.str (S "Cutting.__init__") 995),
 some (.str (S "Cutting.put") 1007),
 some (.str (S "Cutting.go_behind") 1032),
 some (.str (S "Cutting.give_up") 1048),
 some (.str (S "Cutting.top") 1057),
 some (.str (S "reflow_cutting") 1080),
 some (.str (S "reflowed") 1092),
 some (.str (S "width_in_ranges") 1136),
 some (.str (S "width_check_ranges") 1147),
 some (.str (S "WidthTable.__init__") 1170),
 some (.str (S "WidthTable.width_of") 1181),
 some (.str (S "Modes.__init__") 1278),
 some (.str (S "Modes.is_on") 1286),
 some (.str (S "charset_table") 1363),
 some (.str (S "Charsets.__init__") 1382),
 some (.str (S "Charsets.table") 1390),
 some (.str (S "Charsets.reset") 1398),
 some (.str (S "Charsets.mapped") 1453),
 some (.str (S "Cursor.__init__") 1509),
 some (.str (S "Cursor.place") 1533),
 some (.str (S "Cursor.equals") 1540),
 some (.str (S "Margins.__init__") 1574),
 some (.str (S "Margins.area") 1624),
 some (.str (S "Tabs.__init__") 1736),
 some (.str (S "Tabs.put_eighths") 1744),
 some (.str (S "Tabs.told") 1783),
 some (.str (S "Tabs.resize") 1818),
 some (.str (S "Screen.__init__") 1864),
 some (.str (S "Screen.line") 1876),
 some (.str (S "Screen.width_of_line") 1883),
 some (.str (S "Screen.right_bound") 1891),
 some (.str (S "Screen.left_bound") 1899),
 some (.str (S "Screen.is_between_sides") 1906),
 some (.str (S "Screen.is_whole") 1913),
 some (.str (S "Screen.place") 1920),
 some (.str (S "Screen.put_code") 1929),
 some (.str (S "Screen.place_ahead") 1939),
 some (.str (S "Screen.join") 1957),
 some (.str (S "Screen.is_narrow") 1971),
 some (.str (S "Screen.put_sign") 1979),
 some (.str (S "Screen.advance") 1990),
 some (.str (S "Screen.wrap") 2000),
 some (.str (S "Screen.scroll_up") 2019),
 some (.str (S "Screen.index") 2037),
 some (.str (S "Screen.keep_within_line") 2051),
 some (.str (S "Screen.carriage_return") 2058),
 some (.str (S "Screen.next_line") 2065),
 some (.str (S "terminal_fit") 2195),
 some (.str (S "_law_take") 2244),
 some (.str (S "_law_screen") 2253),
 some (.str (S "_law_written") 2261),
 some (.str (S "_law_group") 2270),
 some (.str (S "_law_texts") 2284),
 some (.str (S "_law_laid") 2297),
 some (.str (S "_law_seen") 2312),
 some (.str (S "_law_is_so") 2318),
 some (.str (S "law") 2324)]
noncomputable def zbB:List Nat→Nat→List Obj→List Obj
 | [],_,_=>[]
 | _::_,_,[]=>[]
 | a::as,i,o::os=>match Nat.beq a i with
  | true=>o::zbB as (i+1) os
  | false=>zbB (a::as) (i+1) os
theorem zcJ {α β:Type} [BEq α] [LawfulBEq α] {x:α} {y:β} {l:List (α × β)} (h:l.lookup x=some y):(x,y) ∈ l:=by
 induction l with
 | nil=>injection h
 | cons p r ih =>
  rw [List.lookup_cons] at h
  rcases q:x == p.1 <;> rw [q] at h
  ·exact .tail _ (ih h)
  ·rw [beq_iff_eq.mp q,← Option.some.inj h]; exact .head _
theorem zd8:∀ (os:List Obj) (as:List Nat) (i:Nat) (vs:List Obj),zbB as i os=vs→vs.length=as.length →
  ∀ a o,(as.zip vs).lookup a=some o→i≤a∧os[a - i]?=some o
 | os,[],i,vs,_,_,a,o,hl=>by simp at hl
 | [],a'::as,i,vs,h,hn,a,o,hl=>by subst h; simp [zbB] at hn
 | o'::os,a'::as,i,vs,h,hn,a,o,hl=>by
  unfold zbB at h
  split at h
  ·rename_i hb
   have hb:=Nat.eq_of_beq_eq_true hb
   subst h
   simp only [List.length_cons,Nat.add_right_cancel_iff] at hn
   simp only [List.zip_cons_cons,List.lookup_cons] at hl
   split at hl
   ·rename_i q
    (injection hl with hl; subst hl)
    have:a=i:=by rw [← hb]; exact beq_iff_eq.mp q
    subst this
    exact ⟨Nat.le_refl _,by simp⟩
   ·obtain ⟨h1,h2⟩:=zd8 os as (i+1) _ rfl hn a o hl
    refine ⟨Nat.le_of_succ_le h1,?_⟩
    rw [show a - i=(a - (i+1))+1 from zad (.i (.l (.a Va K1) Vb) (.e (.s Vb Va) (.a (.s Vb (.a Va K1)) K1))) rfl h1]
    simpa using h2
  ·obtain ⟨h1,h2⟩:=zd8 os (a'::as) (i+1) vs h hn a o hl
   refine ⟨Nat.le_of_succ_le h1,?_⟩
   rw [show a - i=(a - (i+1))+1 from zad (.i (.l (.a Va K1) Vb) (.e (.s Vb Va) (.a (.s Vb (.a Va K1)) K1))) rfl h1]
   simpa using h2
noncomputable def zeb (o:Obj):Option Value:=match o.data with
 | .fields vs=>vs.toList[1]?
 | _=>none
theorem zfN (P:Params):(KF P).map (·.1)=KA:=rfl
theorem zjH (P:Params):((KF P).map (·.2)).all (fun o=>!o.isFreed)=true:=rfl
noncomputable def Says (w:World) (h:Heap):Prop:=
 (KF w.params).In h∧∀ c q,(CA.zip CQ).lookup c=some (some q)→∃ o vs,h.get? c=some o∧o.data=.fields vs∧vs[1]?=some q
noncomputable def hook:Hook where
 α:=List Obj × List (Option Value)
 obs:=fun s=>(zbB KA 0 s.heap.objs.toList,(zbB CA 0 s.heap.objs.toList).map zeb)
 val:=fun w=>((KF w.params).map (·.2),CQ)
 says:=Says
 of:=fun w s e=>by
  have e1:zbB KA 0 s.heap.objs.toList=(KF w.params).map (·.2):=congrArg Prod.fst e
  have e2:(zbB CA 0 s.heap.objs.toList).map zeb=CQ:=congrArg Prod.snd e
  refine ⟨fun a o hl=>?_,fun c q hl=>?_⟩
  ·have hz:KA.zip ((KF w.params).map (·.2))=KF w.params:=by
    rw [← zfN w.params,List.zip_map',List.map_id'' fun p=>rfl]
   obtain ⟨_,h2⟩:=zd8 _ _ _ _ e1 (by rw [List.length_map,← zfN w.params,List.length_map]) a o (by rw [hz]; exact hl)
   refine Heap.get?_some_iff.mpr ⟨by simpa using h2,?_⟩
   have hm:o ∈ (KF w.params).map (·.2):=List.mem_map.mpr ⟨_,zcJ hl,rfl⟩
   have:=List.all_eq_true.mp (zjH w.params) o hm
   simpa using this
  ·have hlen:(zbB CA 0 s.heap.objs.toList).length=CA.length:=by
    have:=congrArg List.length e2
    rw [List.length_map] at this
    rw [this]; rfl
   have:∃ o,(CA.zip (zbB CA 0 s.heap.objs.toList)).lookup c=some o∧zeb o=some q:=by
    rw [← e2] at hl
    revert hl
    generalize zbB CA 0 s.heap.objs.toList=l
    generalize CA=as
    intro hl
    induction as generalizing l with
    | nil=>simp at hl
    | cons a as ih =>
     induction l using List.casesOn with
     | nil=>simp at hl
     | cons o l =>
      simp only [List.map_cons,List.zip_cons_cons,List.lookup_cons] at hl ⊢
      split at hl
      ·exact ⟨o,rfl,by simpa using hl⟩
      ·exact ih l hl
   obtain ⟨o,ho,hq⟩:=this
   obtain ⟨_,h2⟩:=zd8 _ _ _ _ rfl hlen c o ho
   unfold zeb at hq
   split at hq
   ·rename_i vs hd
    refine ⟨o,vs,Heap.get?_some_iff.mpr ⟨by simpa using h2,?_⟩,hd,by simpa using hq⟩
    obtain ⟨oc,od,oda,osl⟩:=o
    dsimp only at hd
    subst hd
    rfl
   ·injection hq
 keeps:=fun w h h' x k=>⟨x.1.keeps k,fun c q e=>let ⟨o,vs,h1,h2,h3⟩:=x.2 c q e; ⟨o,vs,k _ _ h1,h2,h3⟩⟩
noncomputable def Vr (a:Nat):Value:=.ref a
noncomputable def Vi (n:Int):Value:=.int n 0
noncomputable def Vs (s:String) (t:Nat):Value:=.str (S s) t
noncomputable def fl (vs:List Value):Obj:=⟨.none,none,.fields vs.toArray,#[]⟩
noncomputable def ty (T:String) (vs:List Value):Obj:=⟨.type T,none,.fields vs.toArray,#[]⟩
noncomputable def fram (c l:Nat) (m:Value):Obj:=⟨.type "frame",none,.plain,#[some (Vr c),some (Vr 3),some (Vr l),none,some m,none,some (Vr 0)]⟩
noncomputable def kf (P:Params) (a:Nat):Obj:=((KF P).lookup a).getD default
noncomputable def tus (t:Nat):List String→List Value
 | []=>[]
 | x::r=>Vs x t::tus (t+1) r
noncomputable def stub (i j:Nat) (ql:String):Obj:=⟨.none,none,.func { fnOf (zb3 (dg i j)) (S ql) (zcd (dg i j)) (zbL (dg i j)) (zaL (dg i j)) .none .none .none .none none .none .none with globals:=0 },#[]⟩
noncomputable def zeJ (nm:Str) (ql:String) (l ac f t x:Nat) (c:Nat) (b:Bool) (k:Nat) (v13 v14 v15:Value):Obj:=
 ty "code" [.str nm t,Vs ql (t+1),Vs "/claim/cut.py" (t+2),Vi l,Vi ac,Vi 0,Vi 0,Vi f,Vr c,.bool b,Vi 181,Vr k,.none,v13,v14,v15,Vi (x:Nat),Vi l,Vs "/claim/cut.py" (x+1)]
noncomputable def fd (a i j:Nat) (ql:String) (l ac t:Nat) (vs:List String) (m dV:Value) (K:List Obj):List Obj:=
 tu [] 0::fl []::tu (tus (t+3) vs) 0::tu [] 0::stub i j ql::zeJ (zb3 (dg i j)) ql l ac 3 t (t+3+vs.length) a true (a+1) (Vr (a+2)) (Vr (a+3)) (Vr (a+4))::fo i j (S ql) dV m (Vr (a+5))::K
noncomputable def fe (a i j:Nat) (ql:String) (l ac t:Nat) (m:Value) (K:List Obj):List Obj:=
 tu [] 0::fl []::stub i j ql::zeJ (zb3 (dg i j)) ql l ac 3 t (t+3) a true (a+1) .none .none (Vr (a+2))::fo i j (S ql) .none m (Vr (a+3))::K
noncomputable def trs (c:Nat) (l:List (Nat × Nat)):List Value:=l.flatMap fun p=>[Vi p.1,Vi c,Vr p.2]
noncomputable def cA (a:Nat) (nm:String) (m:Value) (l t:Nat) (es:Obj) (ms:List (Nat × Nat)) (bs:List Value) (K:List Obj):List Obj:=
 tu bs 0::ty "builtin_function_or_method" [.builtin "type.__prepare__",.type "type"]::es::tu [] 0::fl (trs 4 ms) ::
 zeJ (S nm) nm l 0 0 (t+2) (t+5) (a+3) false (a+4) .none .none .none::fram (a+5) (a+2) m::K
noncomputable def zdk (P:Params) (a:Nat):List DictEntry:=match (kf P a).data with | .dict es _=>es.toList | _=>[]
noncomputable def dobj (es:List DictEntry) (n:Nat):Obj:=⟨.type "dict",none,.dict es.toArray n,#[]⟩
noncomputable def zbG (P:Params) (a:Nat) (nm:String) (t n:Nat):Obj:=
 dobj ((zdk P a).take 1++⟨PyData.keyHash P (S "__qualname__"),Vs "__qualname__" (t+9),Vs nm (t+8)⟩::((zdk P a).drop 1).take ((zdk P a).length - 4)) n
noncomputable def cZ (P:Params) (b d:Nat) (K:List Obj):List Obj:=
 kf P b::kf P (b+1)::ty "getset_descriptor" [Vs "__dict__" d,Vr (b+1),.builtin "function.__dict__",.builtin "function.__dict__#set"]::ty "getset_descriptor" [Vs "__weakref__" (d+2),Vr (b+1),.builtin "ExceptionGroup.__weakref__",.none] ::
 ty "super" [Vr (b+1),Vr (b+1),Vr (b+1)]::ty "builtin_function_or_method" [.builtin "object.__init_subclass__",Vr (b+1)]::K
noncomputable def ecl (nm:String) (a ns t u x:Nat) (bs mro sub:List Value):Obj:=
 ⟨.type "type",none,.cls { name:=S nm,bases:=bs,mro:=mro,ns:=ns,qualname:=S nm,subclasses:=sub },#[some (Vr x),none,some (Vs nm t),some (Vs nm u),some (.builtin "Exception.__new__"),some (.bool true)]⟩
noncomputable def md (k:Nat):Value:=([Vs "__main__" 164,Vs "termcore.base" 194,Vs "termcore.lines" 288,Vs "termcore.grid" 518,Vs "termcore.reflow" 743,Vs "termcore.cellwidths" 1106,Vs "termcore.modes" 1240,Vs "termcore.charsets" 1313,Vs "termcore.cursor" 1492,Vs "termcore.screen" 1845,Vs "termcore.terminal" 2192,Vs "law_rh0243_01" 2208][k]?).getD .none
noncomputable def op0 (P:Params) (K:List Obj):List Obj:=
 fd 15 0 1000 "_wall" 1 1 187 ["k"] (md 0) (.none) <|
 .cons (tu [.int 0 199,.int (-1) 197,.int (-1) 197,.int (-1) 197,.int 0 200] 0) <|
 cA 23 "TermError" (md 1) 9 206 (no P [(S "__module__",213,md 1),(S "__qualname__",215,Vs "TermError" 214),(S "__firstlineno__",217,.int 9 216),(S "__init__",225,Vr 37),(S "__static_attributes__",227,Vr 38)] 5) [(11,36)] [.type "Exception"] <|
 .cons (tu [.none] 0) <|
 fd 31 6 0 "TermError.__init__" 11 2 218 ["self","told"] (md 1) (Vr 30) <|
 .cons (tu [Vs "told" 226] 0) <|
 ([no P [(S "__module__",213,md 1),(S "__firstlineno__",217,.int 9 216),(S "__init__",225,Vr 37),(S "__static_attributes__",227,Vr 38),(S "__weakref__",229,Vr 41),(S "__doc__",230,.none)] 3,ecl "TermError" 40 39 206 214 23 [.type "Exception"] [Vr 40,.type "Exception",.type "BaseException",.type "object"] [Vr 53],ty "getset_descriptor" [Vs "__weakref__" 228,Vr 40,.builtin "ExceptionGroup.__weakref__",.none],ty "super" [Vr 40,Vr 40,Vr 40],ty "builtin_function_or_method" [.builtin "object.__init_subclass__",Vr 40]]++·) <|
 cA 44 "BadSize" (md 1) 13 235 (no P [(S "__module__",242,md 1),(S "__qualname__",244,Vs "BadSize" 243),(S "__firstlineno__",246,.int 13 245),(S "__static_attributes__",247,Vr 51)] 4) [] [Vr 40] <|
 .cons (tu [] 0) <|
 ([no P [(S "__module__",242,md 1),(S "__firstlineno__",246,.int 13 245),(S "__static_attributes__",247,Vr 51),(S "__doc__",248,.none)] 2,ecl "BadSize" 53 52 235 243 44 [Vr 40] [Vr 53,Vr 40,.type "Exception",.type "BaseException",.type "object"] [],ty "super" [Vr 53,Vr 53,Vr 53],ty "builtin_function_or_method" [.builtin "object.__init_subclass__",Vr 53]]++·) <|
 fd 56 8 1000 "clamp" 15 3 251 ["value","least","most"] (md 1) (.none) <|
 fd 63 9 1000 "erased_pen" 17 1 260 ["pen"] (md 1) (.none) <|
 fd 70 10 1000 "blank_cell" 19 1 267 ["pen"] (md 1) (.none) <|
 fd 77 11 1000 "is_blank" 21 1 274 ["cell"] (md 1) (.none) <|
 fd 84 12 1000 "is_plain_blank" 23 1 281 ["cell"] (md 1) (.none) <|
 .cons (tu [Vs "single" 290,Vs "wide" 291,Vs "top" 292,Vs "bottom" 293] 0) <|
 fd 92 15 1000 "line_blanks" 27 2 295 ["many","pen"] (md 2) (.none) <|
 fd 99 16 1000 "right_half" 29 1 303 ["cell"] (md 2) (.none) <|
 fd 106 17 1000 "line_part" 31 2 310 ["cells","at"] (md 2) (.none) <|
 fd 113 18 1000 "line_slice" 35 3 318 ["cells","left","right","found"] (md 2) (.none) <|
 fd 120 19 1000 "line_codes" 42 1 328 ["cells","last","found","cell"] (md 2) (.none) <|
 cA 127 "Line" (md 2) 51 338 (zbG P 250 "Line" 338 20) [(53,139),(59,146),(62,154),(65,161),(68,168),(79,175),(87,183),(100,190),(115,197),(118,204),(121,211),(124,218),(131,226),(134,233),(140,240),(148,247)] [] <|
 fd 134 20 0 "Line.__init__" 53 3 350 ["self","columns","pen"] (md 2) (.none) <|
 fd 141 20 1 "Line.columns" 58 1 359 ["self"] (md 2) (.none) <|
 .cons (ty "property" [Vr 147,.none,.none,.none,Vs "columns" 366,.bool false]) <|
 fd 149 20 2 "Line.shown" 62 1 367 ["self"] (md 2) (.none) <|
 fd 156 20 3 "Line.part" 65 2 374 ["self","at"] (md 2) (.none) <|
 fd 163 20 4 "Line.put" 68 3 382 ["self","column","cell"] (md 2) (.none) <|
 fd 170 20 5 "Line.put_cells" 79 3 391 ["self","column","cells","some"] (md 2) (.none) <|
 .cons (tu [.bool false] 0) <|
 fd 178 20 6 "Line.erase" 87 5 401 ["self","left","right","pen","is_selective","border","column"] (md 2) (Vr 177) <|
 fd 185 20 7 "Line.shift" 100 6 414 ["self","column","many","right","pen","is_back","first","last","border","kept","blanks"] (md 2) (.none) <|
 fd 192 20 8 "Line.insert" 115 5 431 ["self","column","many","right","pen"] (md 2) (.none) <|
 fd 199 20 9 "Line.delete" 118 5 442 ["self","column","many","right","pen"] (md 2) (.none) <|
 fd 206 20 10 "Line.fill" 121 4 453 ["self","left","right","cell"] (md 2) (.none) <|
 fd 213 20 11 "Line.copy" 124 1 463 ["self","found"] (md 2) (.none) <|
 .cons (tu [.int 0 471,.none] 0) <|
 fd 221 20 12 "Line.codes" 131 3 472 ["self","left","right"] (md 2) (Vr 220) <|
 fd 228 20 13 "Line.used" 134 1 481 ["self","last"] (md 2) (.none) <|
 fd 235 20 14 "Line.resized" 140 3 489 ["self","columns","pen","found"] (md 2) (.none) <| K
noncomputable def op1 (P:Params) (K:List Obj):List Obj:=
 fd 242 20 15 "Line.equals" 148 2 499 ["self","other"] (md 2) (.none) <|
 .cons (tu [Vs "cells" 507,Vs "is_wrapped" 508,Vs "size" 509] 0) <|
 cZ P 250 511 <|
 cA 256 "Grid" (md 3) 151 520 (zbG P 395 "Grid" 520 24) [(153,266),(160,273),(163,280),(166,287),(169,292),(172,299),(176,306),(196,313),(199,320),(206,327),(209,334),(212,341),(215,348),(226,356),(233,363),(236,370),(239,377),(242,382),(247,387),(252,392)] [] <|
 fe 263 22 0 "Grid.__init__" 153 3 532 (md 3) <|
 fd 268 22 1 "Grid.line" 160 2 538 ["self","row"] (md 3) (.none) <|
 fd 275 22 2 "Grid.whole_area" 163 1 546 ["self"] (md 3) (.none) <|
 fd 282 22 3 "Grid.is_wide" 166 2 553 ["self","area"] (md 3) (.none) <|
 fe 289 22 4 "Grid.fresh" 169 3 561 (md 3) <|
 fd 294 22 5 "Grid.part_above" 172 2 567 ["self","row"] (md 3) (.none) <|
 fd 301 22 6 "Grid.scroll_up" 176 4 575 ["self","area","many","pen","top","left","bottom","right","row","gone","kept"] (md 3) (.none) <|
 fd 308 22 7 "Grid.scroll_down" 196 4 592 ["self","area","many","pen"] (md 3) (.none) <|
 fd 315 22 8 "Grid.unwrap" 199 2 602 ["self","area","row"] (md 3) (.none) <|
 fd 322 22 9 "Grid.insert_columns" 206 5 611 ["self","area","column","many","pen"] (md 3) (.none) <|
 fd 329 22 10 "Grid.delete_columns" 209 5 622 ["self","area","column","many","pen"] (md 3) (.none) <|
 fd 336 22 11 "Grid.cells_of" 212 4 633 ["self","row","left","right"] (md 3) (.none) <|
 fd 343 22 12 "Grid.put_cells" 215 4 643 ["self","row","column","cells","line","end","step","cell"] (md 3) (.none) <|
 .cons (tu [.bool false] 0) <|
 fd 351 22 13 "Grid.erase_area" 226 4 657 ["self","area","pen","is_selective","top","left","bottom","right","row"] (md 3) (Vr 350) <|
 fd 358 22 14 "Grid.fill_area" 233 3 672 ["self","area","cell"] (md 3) (.none) <|
 fd 365 22 15 "Grid.copy_area" 236 4 681 ["self","area","row","column"] (md 3) (.none) <|
 fd 372 22 16 "Grid.cells_in" 239 2 691 ["self","area"] (md 3) (.none) <|
 fe 379 22 17 "Grid.copy" 242 1 699 (md 3) <|
 fe 384 22 18 "Grid.equals" 247 2 705 (md 3) <|
 fe 389 22 19 "Grid.text" 252 1 711 (md 3) <|
 .cons (tu [Vs "columns" 717,Vs "lines" 718,Vs "rows" 719] 0) <|
 cZ P 395 721 <|
 fd 401 23 1000 "grid_cut" 254 1 728 ["cell"] (md 3) (.none) <|
 fd 408 24 1000 "grid_mended" 256 1 735 ["cells","found"] (md 3) (.none) <|
 cA 415 "History" (md 4) 265 747 (zbG P 477 "History" 747 12) [(267,427),(272,434),(275,441),(282,448),(285,455),(288,462),(291,467),(297,474)] [] <|
 fd 422 27 0 "History.__init__" 267 2 759 ["self","most"] (md 4) (.none) <|
 fd 429 27 1 "History.many" 272 1 767 ["self"] (md 4) (.none) <|
 fd 436 27 2 "History.push" 275 2 774 ["self","line"] (md 4) (.none) <|
 fd 443 27 3 "History.pop" 282 1 782 ["self"] (md 4) (.none) <|
 fd 450 27 4 "History.clear" 285 1 789 ["self"] (md 4) (.none) <|
 fd 457 27 5 "History.trimmed" 288 2 796 ["self","most"] (md 4) (.none) <|
 fe 464 27 6 "History.copy" 291 1 804 (md 4) <|
 fd 469 27 7 "History.equals" 297 2 810 ["self","other"] (md 4) (.none) <|
 .cons (tu [Vs "gone" 818,Vs "lines" 819,Vs "most" 820] 0) <|
 cZ P 477 822 <| K
noncomputable def op2 (P:Params) (K:List Obj):List Obj:=
 fe 483 28 1000 "reflow_lines_equal" 299 2 829 (md 4) <|
 cA 488 "LogicalLine" (md 4) 303 835 (zbG P 531 "LogicalLine" 835 9) [(305,500),(312,507),(316,514),(320,521),(323,528)] [] <|
 fd 495 29 0 "LogicalLine.__init__" 305 3 847 ["self","first","size"] (md 4) (.none) <|
 fd 502 29 1 "LogicalLine.put" 312 2 856 ["self","cells"] (md 4) (.none) <|
 fd 509 29 2 "LogicalLine.kept_to" 316 2 864 ["self","many"] (md 4) (.none) <|
 fd 516 29 3 "LogicalLine.size_of" 320 2 872 ["self","at"] (md 4) (.none) <|
 fd 523 29 4 "LogicalLine.offset_of" 323 3 880 ["self","at","column","size"] (md 4) (.none) <|
 .cons (tu [Vs "begins" 890,Vs "cells" 891,Vs "first" 892,Vs "is_whole" 893,Vs "size" 894] 0) <|
 cZ P 531 896 <|
 fd 537 30 1000 "reflow_used" 328 1 903 ["cells","many"] (md 4) (.none) <|
 fd 544 31 1000 "reflow_begins_wide" 333 1 911 ["line"] (md 4) (.none) <|
 fd 551 32 1000 "reflow_part" 335 2 918 ["lines","at","cells"] (md 4) (.none) <|
 fd 558 33 1000 "reflow_goes_on" 342 2 927 ["lines","at"] (md 4) (.none) <|
 fd 565 34 1000 "logical_of" 346 1 935 ["lines","found","at","whole"] (md 4) (.none) <|
 fd 572 35 1000 "cut_with_places" 358 2 945 ["cells","columns","pieces","piece","places","at","cell","many","part","step"] (md 4) (.none) <|
 fd 579 36 1000 "reflow_place" 377 3 961 ["pieces","places","offset"] (md 4) (.none) <|
 fd 586 37 1000 "reflow_line" 381 3 970 ["piece","columns","is_wrapped","line","column","cell"] (md 4) (.none) <|
 cA 593 "Cutting" (md 4) 387 982 (zbG P 643 "Cutting" 982 10) [(389,605),(400,612),(436,619),(442,626),(445,633),(452,640)] [] <|
 fd 600 38 0 "Cutting.__init__" 389 5 994 ["self","lines","columns","first","cursor","whole"] (md 4) (.none) <|
 fd 607 38 1 "Cutting.put" 400 5 1006 ["self","whole","lines","first","cursor","begun","last","has_cursor","offset","is_free","pieces","places","is_behind","at","begin","number","piece","is_wrapped","place"] (md 4) (.none) <|
 fd 614 38 2 "Cutting.go_behind" 436 1 1031 ["self"] (md 4) (.none) <|
 fd 621 38 3 "Cutting.place_of" 442 3 1038 ["self","number","column"] (md 4) (.none) <|
 fd 628 38 4 "Cutting.give_up" 445 2 1047 ["self","rows","line"] (md 4) (.none) <|
 fd 635 38 5 "Cutting.top" 452 2 1056 ["self","rows"] (md 4) (.none) <|
 .cons (tu [Vs "column" 1064,Vs "columns" 1065,Vs "first" 1066,Vs "is_waiting" 1067,Vs "lines" 1068,Vs "row" 1069,Vs "spots" 1070] 0) <|
 cZ P 643 1072 <|
 fd 649 39 1000 "reflow_cutting" 456 3 1079 ["screen","rows","columns","elder","cursor","cutting"] (md 4) (.none) <|
 fd 656 40 1000 "reflowed" 462 3 1091 ["screen","rows","columns","cutting","top","history","line","grid","row"] (md 4) (.none) <|
 .cons (tu [.int (127995) 1114,.int 127999 1115] 0) <| .cons (ty "tuple_iterator" [.none,Vi 2]) <| .cons (tu [] 0) <| .cons (ty "StopIteration" [Vr 665,.none,.none,.none,.bool false,.none]) <| .cons (tu [.int (127462) 1118,.int 127487 1119] 0) <| .cons (ty "tuple_iterator" [.none,Vi 2]) <| .cons (tu [] 0) <| .cons (ty "StopIteration" [Vr 669,.none,.none,.none,.bool false,.none]) <| .cons (tu [.int (35) 1122,.int 42 1123,.int 48 1124,.int 49 1125,.int 50 1126,.int 51 1127,.int 52 1128,.int 53 1129,.int 54 1130,.int 55 1131,.int 56 1132,.int 57 1133] 0) <|
 fd 672 48 1000 "width_in_ranges" 484 2 1135 ["ranges","code","low","high","middle"] (md 5) (.none) <|
 fd 679 49 1000 "width_check_ranges" 493 1 1146 ["ranges","before","place","first","last"] (md 5) (.none) <|
 cA 686 "WidthTable" (md 5) 499 1157 (zbG P 715 "WidthTable" 1157 7) [(501,698),(508,705),(513,712)] [] <|
 fd 693 50 0 "WidthTable.__init__" 501 4 1169 ["self","wide","marks","joiners","ranges"] (md 5) (.none) <|
 fd 700 50 1 "WidthTable.width_of" 508 2 1180 ["self","code"] (md 5) (.none) <|
 fd 707 50 2 "WidthTable.is_picture" 513 2 1188 ["self","code"] (md 5) (.none) <|
 .cons (tu [Vs "joiners" 1196,Vs "marks" 1197,Vs "wide" 1198] 0) <|
 cZ P 715 1200 <|
 fd 721 51 1000 "is_region" 515 1 1207 ["code"] (md 5) (.none) <|
 fd 728 52 1000 "is_modifier" 517 1 1214 ["code"] (md 5) (.none) <|
 fd 735 53 1000 "width_bare" 519 1 1221 ["codes"] (md 5) (.none) <| K
noncomputable def op3 (P:Params) (K:List Obj):List Obj:=
 fe 742 54 1000 "joins" 521 3 1228 (md 5) <|
 fe 747 55 1000 "cluster_width" 531 2 1234 (md 5) <|
 .cons (tu [Vs "mouse_x10" 1242,Vs "mouse_click" 1243,Vs "mouse_drag" 1244,Vs "mouse_all" 1245] 0) <| .cons (tu [Vs "mouse_utf8" 1247,Vs "mouse_sgr" 1248,Vs "mouse_urxvt" 1249,Vs "mouse_pixels" 1250] 0) <| .cons (tu [Vs "send_receive" 1252,Vs "autowrap" 1253,Vs "autorepeat" 1254,Vs "show_cursor" 1255,Vs "num_lock" 1256] 0) <|
 fd 755 60 1000 "modes_group" 543 1 1258 ["word"] (md 6) (.none) <|
 cA 762 "Modes" (md 6) 547 1265 (zbG P 791 "Modes" 1265 7) [(549,774),(555,781),(558,788)] [] <|
 fd 769 61 0 "Modes.__init__" 549 1 1277 ["self","word"] (md 6) (.none) <|
 fd 776 61 1 "Modes.is_on" 555 2 1285 ["self","word"] (md 6) (.none) <|
 fd 783 61 2 "Modes.set" 558 3 1293 ["self","word","is_on","other"] (md 6) (.none) <|
 .cons (tu [Vs "kept" 1303,Vs "states" 1304] 0) <|
 cZ P 791 1306 <|
 fd 797 71 1000 "charset_pairs" 572 2 1331 ["signs","codes"] (md 7) (.none) <|
 fd 804 72 1000 "charset_drawing" 574 0 1339 ["found"] (md 7) (.none) <|
 fd 811 73 1000 "charset_supplement" 583 1 1346 ["is_dec","found","code"] (md 7) (.none) <|
 fd 818 74 1000 "charset_national" 592 1 1355 ["name"] (md 7) (.none) <|
 fd 825 75 1000 "charset_table" 614 1 1362 ["name"] (md 7) (.none) <|
 cA 832 "Charsets" (md 7) 624 1369 (zbG P 919 "Charsets" 1369 15) [(626,845),(630,852),(635,859),(641,866),(649,873),(652,880),(655,887),(658,894),(661,901),(664,909),(675,916)] [] <|
 .cons (tu [.none] 0) <|
 fd 840 76 0 "Charsets.__init__" 626 2 1381 ["self","made"] (md 7) (Vr 839) <|
 fd 847 76 1 "Charsets.table" 630 2 1389 ["self","name"] (md 7) (.none) <|
 fd 854 76 2 "Charsets.reset" 635 1 1397 ["self"] (md 7) (.none) <|
 fd 861 76 3 "Charsets.copy" 641 1 1404 ["self","found"] (md 7) (.none) <|
 fd 868 76 4 "Charsets.designate" 649 3 1412 ["self","place","word"] (md 7) (.none) <|
 fd 875 76 5 "Charsets.shift_in" 652 1 1421 ["self"] (md 7) (.none) <|
 fd 882 76 6 "Charsets.shift_out" 655 1 1428 ["self"] (md 7) (.none) <|
 fd 889 76 7 "Charsets.lock" 658 3 1435 ["self","place","is_right"] (md 7) (.none) <|
 fd 896 76 8 "Charsets.single" 661 2 1444 ["self","place"] (md 7) (.none) <|
 .cons (tu [.bool false] 0) <|
 fd 904 76 9 "Charsets.mapped" 664 3 1452 ["self","code","has_right","place","is_shifted"] (md 7) (Vr 903) <|
 fd 911 76 10 "Charsets.is_plain" 675 1 1463 ["self"] (md 7) (.none) <|
 .cons (tu [Vs "left" 1470,Vs "made" 1471,Vs "names" 1472,Vs "right" 1473,Vs "shift" 1474] 0) <|
 cZ P 919 1476 <|
 fd 925 77 1000 "charset_on_right" 677 2 1483 ["table","code","low"] (md 7) (.none) <|
 cA 932 "Cursor" (md 8) 682 1496 (zbG P 975 "Cursor" 1496 9) [(684,944),(692,951),(702,958),(707,965),(710,972)] [] <|
 fd 939 80 0 "Cursor.__init__" 684 1 1508 ["self"] (md 8) (.none) <|
 fd 946 80 1 "Cursor.copy" 692 1 1515 ["self","found"] (md 8) (.none) <|
 fd 953 80 2 "Cursor.go" 702 3 1523 ["self","row","column"] (md 8) (.none) <|
 fd 960 80 3 "Cursor.place" 707 1 1532 ["self"] (md 8) (.none) <|
 fd 967 80 4 "Cursor.equals" 710 2 1539 ["self","other"] (md 8) (.none) <|
 .cons (tu [Vs "column" 1547,Vs "is_guarding" 1548,Vs "is_origin" 1549,Vs "is_waiting" 1550,Vs "pen" 1551,Vs "row" 1552] 0) <|
 cZ P 975 1554 <| K
noncomputable def op4 (P:Params) (K:List Obj):List Obj:=
 cA 981 "Margins" (md 8) 714 1561 (zbG P 1108 "Margins" 1561 21) [(716,993),(724,1000),(727,1007),(730,1014),(734,1021),(738,1028),(744,1035),(747,1042),(750,1049),(753,1056),(756,1063),(759,1070),(762,1077),(765,1084),(768,1091),(771,1098),(774,1105)] [] <|
 fd 988 81 0 "Margins.__init__" 716 3 1573 ["self","rows","columns"] (md 8) (.none) <|
 fd 995 81 1 "Margins.set_rows" 724 3 1582 ["self","top","bottom"] (md 8) (.none) <|
 fd 1002 81 2 "Margins.set_columns" 727 3 1591 ["self","left","right"] (md 8) (.none) <|
 fd 1009 81 3 "Margins.clear_rows" 730 1 1600 ["self"] (md 8) (.none) <|
 fd 1016 81 4 "Margins.clear_columns" 734 1 1607 ["self"] (md 8) (.none) <|
 fd 1023 81 5 "Margins.resize" 738 3 1614 ["self","rows","columns"] (md 8) (.none) <|
 fd 1030 81 6 "Margins.area" 744 1 1623 ["self"] (md 8) (.none) <|
 fd 1037 81 7 "Margins.holds" 747 3 1630 ["self","row","column"] (md 8) (.none) <|
 fd 1044 81 8 "Margins.holds_row" 750 2 1639 ["self","row"] (md 8) (.none) <|
 fd 1051 81 9 "Margins.holds_column" 753 2 1647 ["self","column"] (md 8) (.none) <|
 fd 1058 81 10 "Margins.is_whole_width" 756 1 1655 ["self"] (md 8) (.none) <|
 fd 1065 81 11 "Margins.is_whole" 759 1 1662 ["self"] (md 8) (.none) <|
 fd 1072 81 12 "Margins.first_row" 762 2 1669 ["self","row"] (md 8) (.none) <|
 fd 1079 81 13 "Margins.last_row" 765 2 1677 ["self","row"] (md 8) (.none) <|
 fd 1086 81 14 "Margins.first_column" 768 2 1685 ["self","column"] (md 8) (.none) <|
 fd 1093 81 15 "Margins.last_column" 771 2 1693 ["self","column"] (md 8) (.none) <|
 fd 1100 81 16 "Margins.copy" 774 1 1701 ["self","found"] (md 8) (.none) <|
 .cons (tu [Vs "bottom" 1709,Vs "columns" 1710,Vs "left" 1711,Vs "right" 1712,Vs "rows" 1713,Vs "top" 1714] 0) <|
 cZ P 1108 1716 <|
 cA 1114 "Tabs" (md 8) 781 1723 (zbG P 1207 "Tabs" 1723 16) [(783,1126),(788,1133),(793,1140),(797,1147),(800,1154),(803,1161),(807,1168),(810,1175),(815,1182),(818,1190),(821,1197),(830,1204)] [] <|
 fd 1121 82 0 "Tabs.__init__" 783 2 1735 ["self","columns"] (md 8) (.none) <|
 fd 1128 82 1 "Tabs.put_eighths" 788 2 1743 ["self","begin","column"] (md 8) (.none) <|
 fd 1135 82 2 "Tabs.set" 793 2 1752 ["self","column"] (md 8) (.none) <|
 fd 1142 82 3 "Tabs.clear" 797 2 1760 ["self","column"] (md 8) (.none) <|
 fd 1149 82 4 "Tabs.clear_all" 800 1 1768 ["self"] (md 8) (.none) <|
 fd 1156 82 5 "Tabs.reset" 803 1 1775 ["self"] (md 8) (.none) <|
 fd 1163 82 6 "Tabs.told" 807 1 1782 ["self"] (md 8) (.none) <|
 fd 1170 82 7 "Tabs.put" 810 2 1789 ["self","columns","column"] (md 8) (.none) <|
 fd 1177 82 8 "Tabs.next_from" 815 3 1798 ["self","column","most"] (md 8) (.none) <|
 .cons (tu [.int 0 1807] 0) <|
 fd 1185 82 9 "Tabs.back_from" 818 3 1808 ["self","column","least"] (md 8) (Vr 1184) <|
 fd 1192 82 10 "Tabs.resize" 821 2 1817 ["self","columns","begin","column"] (md 8) (.none) <|
 fd 1199 82 11 "Tabs.copy" 830 1 1827 ["self","found"] (md 8) (.none) <|
 .cons (tu [Vs "columns" 1835,Vs "stops" 1836] 0) <|
 cZ P 1207 1838 <|
 .cons (tu [Vs "wide" 1847,Vs "top" 1848,Vs "bottom" 1849] 0) <|
 cA 1214 "Screen" (md 9) 836 1851 (zbG P 1484 "Screen" 1851 41) [(838,1227),(853,1234),(856,1241),(859,1248),(863,1255),(866,1262),(869,1269),(872,1276),(877,1283),(885,1290),(895,1297),(899,1304),(914,1311),(918,1318),(946,1325),(955,1332),(966,1339),(969,1346),(975,1353),(978,1360),(987,1367),(990,1374),(993,1381),(998,1388),(1002,1395),(1005,1403),(1008,1411),(1011,1418),(1014,1425),(1017,1432),(1020,1439),(1023,1446),(1026,1453),(1029,1460),(1032,1467),(1035,1474),(1038,1481)] [] <|
 .cons (tu [.none] 0) <|
 fd 1222 85 0 "Screen.__init__" 838 6 1863 ["self","rows","columns","modes","widths","history"] (md 9) (Vr 1221) <| K
noncomputable def op5 (P:Params) (K:List Obj):List Obj:=
 fd 1229 85 1 "Screen.line" 853 1 1875 ["self"] (md 9) (.none) <|
 fd 1236 85 2 "Screen.width_of_line" 856 2 1882 ["self","row"] (md 9) (.none) <|
 fd 1243 85 3 "Screen.right_bound" 859 1 1890 ["self","end"] (md 9) (.none) <|
 fd 1250 85 4 "Screen.left_bound" 863 1 1898 ["self"] (md 9) (.none) <|
 fd 1257 85 5 "Screen.is_between_sides" 866 1 1905 ["self"] (md 9) (.none) <|
 fd 1264 85 6 "Screen.is_whole" 869 1 1912 ["self"] (md 9) (.none) <|
 fd 1271 85 7 "Screen.place" 872 3 1919 ["self","row","column"] (md 9) (.none) <|
 fd 1278 85 8 "Screen.put_code" 877 2 1928 ["self","code","mapped","width"] (md 9) (.none) <|
 fd 1285 85 9 "Screen.place_ahead" 885 1 1938 ["self","column","cell"] (md 9) (.none) <|
 fd 1292 85 10 "Screen.is_joined" 895 2 1947 ["self","code","column"] (md 9) (.none) <|
 fd 1299 85 11 "Screen.join" 899 2 1956 ["self","code","column","codes","width","pen","is_guarded","wish"] (md 9) (.none) <|
 fd 1306 85 12 "Screen.is_narrow" 914 1 1970 ["self","most"] (md 9) (.none) <|
 fd 1313 85 13 "Screen.put_sign" 918 3 1978 ["self","codes","width","right","column"] (md 9) (.none) <|
 fd 1320 85 14 "Screen.advance" 946 3 1989 ["self","column","width","right"] (md 9) (.none) <|
 fd 1327 85 15 "Screen.wrap" 955 1 1999 ["self","left","row","begin","is_wide"] (md 9) (.none) <|
 fd 1334 85 16 "Screen.repeat" 966 2 2010 ["self","many"] (md 9) (.none) <|
 fd 1341 85 17 "Screen.scroll_up" 969 2 2018 ["self","many","gone","line"] (md 9) (.none) <|
 fd 1348 85 18 "Screen.scroll_down" 975 2 2028 ["self","many"] (md 9) (.none) <|
 fd 1355 85 19 "Screen.index" 978 1 2036 ["self"] (md 9) (.none) <|
 fd 1362 85 20 "Screen.reverse_index" 987 1 2043 ["self"] (md 9) (.none) <|
 fd 1369 85 21 "Screen.keep_within_line" 990 1 2050 ["self"] (md 9) (.none) <|
 fd 1376 85 22 "Screen.carriage_return" 993 1 2057 ["self"] (md 9) (.none) <|
 fd 1383 85 23 "Screen.next_line" 998 1 2064 ["self"] (md 9) (.none) <|
 fd 1390 85 24 "Screen.backspace" 1002 1 2071 ["self"] (md 9) (.none) <|
 .cons (tu [.int (1) 2078] 0) <|
 fd 1398 85 25 "Screen.tab" 1005 2 2079 ["self","many"] (md 9) (Vr 1397) <|
 .cons (tu [.int (1) 2087] 0) <|
 fd 1406 85 26 "Screen.back_tab" 1008 2 2088 ["self","many"] (md 9) (Vr 1405) <|
 fd 1413 85 27 "Screen.save_cursor" 1011 1 2096 ["self"] (md 9) (.none) <|
 fd 1420 85 28 "Screen.restore_cursor" 1014 1 2103 ["self"] (md 9) (.none) <|
 fd 1427 85 29 "Screen.home" 1017 1 2110 ["self"] (md 9) (.none) <|
 fd 1434 85 30 "Screen.set_margins" 1020 3 2117 ["self","top","bottom"] (md 9) (.none) <|
 fd 1441 85 31 "Screen.set_side_margins" 1023 3 2126 ["self","left","right"] (md 9) (.none) <|
 fd 1448 85 32 "Screen.line_size" 1026 2 2135 ["self","word"] (md 9) (.none) <|
 fd 1455 85 33 "Screen.align" 1029 1 2143 ["self"] (md 9) (.none) <|
 fd 1462 85 34 "Screen.soft_reset" 1032 1 2150 ["self"] (md 9) (.none) <|
 fd 1469 85 35 "Screen.full_reset" 1035 1 2157 ["self"] (md 9) (.none) <|
 fd 1476 85 36 "Screen.blank" 1038 1 2164 ["self"] (md 9) (.none) <|
 .cons (tu [Vs "charsets" 2171,Vs "columns" 2172,Vs "cursor" 2173,Vs "grid" 2174,Vs "has_right" 2175,Vs "history" 2176,Vs "last" 2177,Vs "margins" 2178,Vs "modes" 2179,Vs "rows" 2180,Vs "saved" 2181,Vs "tabs" 2182,Vs "widths" 2183] 0) <|
 cZ P 1484 2185 <| K
noncomputable def op6 (P:Params) (K:List Obj):List Obj:=
 fd 1490 87 1000 "terminal_fit" 1041 5 2194 ["screen","rows","columns","grid","place","row","column","is_waiting"] (md 10) (.none) <|
 .cons (tu [] 0) <| .cons (tu [.int 0 2211,.int (-1) 2213,.int (-1) 2215,.int (-1) 2217,.int 0 2218] 0) <| .cons (tu [Vr 1497,.int 1 2210,Vr 1498,.bool false] 0) <| .cons (tu [.int 0 2220,.int (-1) 2222,.int (-1) 2224,.int (-1) 2226,.int 0 2227] 0) <| .cons (tu [.int (1) 2228,.int 3 2229,.int (-1) 2231,.int (-1) 2233,.int 0 2234] 0) <| .cons (tu [.int (4) 2235,.int (-1) 2237,.int (-1) 2239,.int 5 2240,.int 0 2241] 0) <| .cons (tu [Vr 1500,Vr 1501,Vr 1502] 0) <|
 fd 1504 91 1000 "_law_take" 1053 2 2243 ["deck","below","place"] (md 11) (.none) <|
 fd 1511 92 1000 "_law_screen" 1057 2 2252 ["rows","columns"] (md 11) (.none) <|
 fd 1518 93 1000 "_law_written" 1059 3 2260 ["screen","code","pen"] (md 11) (.none) <|
 fd 1525 94 1000 "_law_group" 1065 3 2269 ["deck","screen","stream","turn","sort","kind","pen","code"] (md 11) (.none) <|
 fd 1532 95 1000 "_law_texts" 1077 1 2283 ["stream","texts","code","pen","codes","width","look"] (md 11) (.none) <|
 fd 1539 96 1000 "_law_laid" 1088 2 2296 ["texts","columns","lines","text","codes","width","pen","far","line"] (md 11) (.none) <|
 fe 1546 97 1000 "_law_seen" 1101 1 2311 (md 11) <|
 fe 1551 98 1000 "_law_is_so" 1103 4 2317 (md 11) <|
 fe 1556 99 1000 "law" 1116 1 2323 (md 11) <| K
noncomputable def f12:List (Nat × Nat):=[(1,20),(9,28),(13,49),(15,61),(17,68),(19,75),(21,82),(23,89),(27,97),(29,104),(31,111),(35,118),(42,125),(51,132),(151,261),(254,406),(256,413),(265,420),(299,486),(303,493),(328,542),(333,549),(335,556),(342,563),(346,570),(358,577),(377,584),(381,591),(387,598),(456,654),(462,661),(484,677),(493,684),(499,691),(515,726),(517,733),(519,740),(521,745),(531,750),(543,760),(547,767),(572,802),(574,809),(583,816),(592,823),(614,830),(624,837),(677,930),(682,937),(714,986),(781,1119),(836,1219),(1041,1495),(1053,1509),(1057,1516),(1059,1523),(1065,1530),(1077,1537),(1088,1544),(1101,1549),(1103,1554),(1116,1559)]
noncomputable def o3 (P:Params) (m:Value) (k:Nat):Obj:=dobj (((zdk P 3).take 1).map (fun e=>{ e with val:=m })++((zdk P 3).drop 1).take (k - 1)) k
noncomputable def o12 (k:Nat):Obj:=fl (trs 0 (f12.take k))
noncomputable def rst (P:Params) (o12:Obj):List Obj:=
 tu [] 0::o12 ::
 ty "code" [Vs "<module>" 182,Vs "<module>" 183,Vs "/claim/cut.py" 184,Vi 1,Vi 0,Vi 0,Vi 0,Vi 0,Vr 11,.bool false,Vi 181,Vr 12,.none,.none,.none,.none,Vi 185,Vi 1,Vs "/claim/cut.py" 186] ::
 fram 13 3 (.str (S "__main__") 164)::(op0 P <| op1 P <| op2 P <| op3 P <| op4 P <| op5 P <| op6 P [])
noncomputable def lst (P:Params) (o2 o3 o12:Obj):List Obj:=boot_o_0 P::boot_o_1 P::o2::o3::boot_o_4 P::boot_o_5 P::boot_o_6 P::boot_o_7 P::boot_o_8 P::boot_o_9 P::boot_o_10 P::rst P o12
noncomputable def zeZ:List Obj→List Obj
 | []=>[]
 | [x]=>[x]
 | x::_::r=>x::zeZ r
noncomputable def ofL:Nat→List Obj→BT
 | 0,_=>.nil
 | _+1,[]=>.nil
 | n+1,x::r=>.node x (ofL n (zeZ r)) (ofL n (zeZ r.tail))
noncomputable abbrev pwp:Program:=PySem.Challenge.pw_rh0243_01
noncomputable def zb4:Env:={ scope:=pwp.main.scope,locals:=mainNs,globals:=mainNs,cells:=[],code:=.ref 13,frame:=some 14 }
noncomputable def stT (P:Params) (o:Obj) (m:Value) (k j n:Nat):BT:=ofL 12 ((lst P o (o3 P m k) (o12 j)).take n)
noncomputable def stS (w:World) (os:OsState) (m:Value) (k j n t:Nat):SharedT:=⟨stT w.params (kf w.params 2) m k j n,n,{},#[],{},t,os⟩
noncomputable def st0 (w:World) (os:OsState):SharedT:=⟨stT w.params (boot_o_2 w.params) (.str (S "__main__") 164) 9 0 15,15,{},#[],{},187,os⟩
noncomputable def bd:List Stmt:=behindTheImports pwp
noncomputable abbrev cT:Code:=.body bd zb4
noncomputable abbrev ps (l c e d:Nat):Pos:=⟨l,c,e,d⟩
noncomputable abbrev B0:List Frame:=[topFrame (ps 0 0 0 0)]
set_option maxHeartbeats 0
noncomputable def b1:List Stmt:=bd.drop 23
noncomputable def b2:List Stmt:=b1.drop 22
noncomputable def b3:List Stmt:=b2.drop 2
noncomputable def b4:List Stmt:=b3.drop 38
theorem pcA (w:World) (os:OsState):segRunT treeTable pwp w 11 (some (.ref 6)) 1 2511 (st0 w os) (piecesOf (bd.take 23) zb4 cT (ps 0 0 0 0) B0)=some (.next,stS w os (md 3) 29 15 401 728,cT,ps 151 0 253 87):=by
 rw [PySem.W.Fast.te10110043849684766642,PySem.W.Fast.te14364793385576792824]
 kernel_rfl
theorem pcB (w:World) (os:OsState):segRunT treeTable pwp w 11 (some (.ref 6)) 1 1682 (stS w os (md 3) 29 15 401 728) (piecesOf (b1.take 22) zb4 cT (ps 151 0 253 87) B0)=some (.next,stS w os (md 5) 49 31 663 1114,cT,ps 480 0 480 12):=by
 rw [PySem.W.Fast.te10110043849684766642,PySem.W.Fast.te14364793385576792824]
 kernel_rfl
theorem pcC (w:World):∀ os,segRunT treeTable pwp w 11 (some (.ref 6)) 1 139 (stS w os (md 5) 49 31 663 1114) (piecesOf (b2.take 2) zb4 cT (ps 480 0 480 12) B0)=some (.next,stS w os (md 5) 53 31 671 1122,cT,ps 482 14 482 25):=by
 revert w
 refine byRow2 "special-get-raises" (fun w os=>?_) fun w os=>?_
 ·rw [PySem.W.Fast.te10110043849684766642,PySem.W.Fast.te14364793385576792824]
  kernel_rfl
 ·rw [PySem.W.Fast.te10110043849684766642,PySem.W.Fast.te14364793385576792824]
  kernel_rfl
theorem pcD (w:World) (os:OsState):segRunT treeTable pwp w 11 (some (.ref 6)) 1 3419 (stS w os (md 5) 53 31 671 1122) (piecesOf (b3.take 38) zb4 cT (ps 482 14 482 25) B0)=some (.next,stS w os (md 9) 87 51 1214 1851,cT,ps 835 0 835 10):=by
 rw [PySem.W.Fast.te10110043849684766642,PySem.W.Fast.te14364793385576792824]
 kernel_rfl
theorem pcE (w:World) (os:OsState):segRunT treeTable pwp w 11 (some (.ref 6)) 1 1843 (stS w os (md 9) 87 51 1214 1851) (piecesOf b4 zb4 cT (ps 835 0 835 10) B0)=some (.next,stS w os (md 11) 100 62 1561 2329,cT,ps 1116 0 1136 91):=by
 rw [PySem.W.Fast.te10110043849684766642,PySem.W.Fast.te14364793385576792824]
 kernel_rfl
theorem znG (w:World) (os:OsState):topGo treeTable pwp w 11 (some (.ref 6)) 12 ⟨boot_heap w.params,#[],boot_drawn,boot_toks,os⟩ (topStub pwp)=some ((st0 w os).abs,⟨denote treeTable cT,cT,ps 0 0 0 0,B0⟩):=by
 rw [PySem.W.Fast.te15667345088766844465,PySem.W.Fast.te14364793385576792824,PySem.W.Fast.te11892475500146522536]
 kernel_rfl
theorem znE (w:World) (os:OsState):segRun treeTable pwp w 11 (some (.ref 6)) 1 1 (st0 w os).abs (blockOf bd zb4 cT (ps 0 0 0 0) B0)=some (.next,(st0 w os).abs,cT,ps 0 0 0 0):=by
 kernel_rfl
noncomputable def hp1 (P:Params):Heap:=⟨⟨lst P (kf P 2) (o3 P (md 11) 100) (o12 62)⟩,{}⟩
theorem znF (w:World) (os:OsState):topRun treeTable pwp w 11 (some (.ref 6)) 2 (stS w os (md 11) 100 62 1561 2329).abs ⟨doneF .next,cT,ps 1116 0 1136 91,B0⟩=some ⟨hp1 w.params,#[],{},2329,os⟩:=by
 kernel_rfl
theorem zjW:bd=bd.take 23++(b1.take 22++(b2.take 2++(b3.take 38++(b4++[])))):=by
 rw [List.append_nil,show b4=b3.drop 38 from rfl,List.take_append_drop,show b3=b2.drop 2 from rfl,List.take_append_drop,show b2=b1.drop 22 from rfl,List.take_append_drop,show b1=bd.drop 23 from rfl,List.take_append_drop]
theorem runT (w:World) (os:OsState):topRun treeTable pwp w 11 (some (.ref 6)) (12+(1+(2511+(1682+(139+(3419+(1843+2))))))) ⟨boot_heap w.params,#[],boot_drawn,boot_toks,os⟩ (topStub pwp)=some ⟨hp1 w.params,#[],{},2329,os⟩:=by
 refine go_top (znG w os) (piece_block (znE w os) ?_)
 rw [show restOf bd zb4 cT (ps 0 0 0 0) B0=restOf (bd.take 23++(b1.take 22++(b2.take 2++(b3.take 38++(b4++[]))))) zb4 cT (ps 0 0 0 0) B0 from congrArg (fun b=>restOf b zb4 cT (ps 0 0 0 0) B0) zjW]
 exact piece_app (segRun_of (pcA w os)) (piece_app (segRun_of (pcB w os)) (piece_app (segRun_of (pcC w os)) (piece_app (segRun_of (pcD w os)) (piece_app (segRun_of (pcE w os)) (piece_nil (znF w os))))))
noncomputable def loo:List Str:=["_wall","NO_COLOUR","PLAIN","BACK","BLANK","TermError","BadSize","clamp","erased_pen","blank_cell","is_blank","is_plain_blank","LINE_SIZES","line_blanks","right_half","line_part","line_slice","line_codes","Line","Grid","grid_cut","grid_mended","SINGLE","History","reflow_lines_equal","LogicalLine","reflow_used","reflow_begins_wide","reflow_part","reflow_goes_on","logical_of","cut_with_places","reflow_place","reflow_line","Cutting","reflow_cutting","reflowed","WIDTH_JOINER","WIDTH_PICTURE","WIDTH_KEYCAP","FIRST_MODIFIER","LAST_MODIFIER","FIRST_REGION","LAST_REGION","WIDTH_KEYS","width_in_ranges","width_check_ranges","WidthTable","is_region","is_modifier","width_bare","joins","cluster_width","MOUSE_MODES","MOUSE_ENCODINGS","FIRST_ON","modes_group","Modes","ASCII_SET","SUPPLEMENT_SET","LATIN_SET","LEFT_FIRST","LEFT_LAST","RIGHT_FIRST","RIGHT_LAST","HIGH_BIT","charset_pairs","charset_drawing","charset_supplement","charset_national","charset_table","Charsets","charset_on_right","TAB_WIDTH","Cursor","Margins","Tabs","WIDE_SIZES","Screen","terminal_fit","_law_bare","_law_looks","_law_take","_law_screen","_law_written","_law_group","_law_texts","_law_laid","_law_seen","_law_is_so"].map S
noncomputable def qvw:Program:=view pwp [99]
noncomputable abbrev sf (w:World) (os:OsState):Shared:=⟨hp1 w.params,#[],{},2329,os⟩
theorem lk1 (w:World) (os:OsState):(staticsOk (importedModules pwp.main.body) (boot_heap w.params) (hp1 w.params) && namesBound pwp (hp1 w.params) && gensDone (sf w os) && laidKept (boot_heap w.params) (hp1 w.params))=true:=by
 kernel_rfl
theorem lk2 (w:World) (os:OsState):openSeen qvw loo (importedModules pwp.main.body) (fun _=>true) true (sf w os)=openGood qvw loo:=by
 rw [PySem.W.Fast.te4187177175401517315]
 kernel_rfl
theorem lk3 (w:World) (os:OsState):hook.obs (sf w os)=hook.val w:=by
 kernel_rfl
noncomputable abbrev prg:Program:=PySem.Challenge.pw_rh0243_01
inductive V where
 | none | bool (b:Bool) | int (i:Int) | str (s:Str) | bytes (b:Array UInt8) | tup (l:List V) | ref (a:Addr) | raw (v:Value)
inductive MO where
 | list (l:List V) | dict (l:List (Str × V)) | dictB (l:List (List UInt8 × V)) | inst (C:Addr) (fs:List (Nat × V))
noncomputable abbrev Hp:=Addr→Option MO
noncomputable abbrev Fz:=Addr→Option Obj
noncomputable def zab {α:Type} (f:Addr→Option α) (a:Addr) (x:α):Addr→Option α:=fun b=>if b=a then some x else f b
theorem zai {α:Type} {f:Addr→Option α} {a:Addr} {x:α}:zab f a x a=some x:=if_pos rfl
theorem za5 {α:Type} {o:Option α} {a:α} (q:o=some a):o≠none:=fun z=>Option.some_ne_none a (q.symm.trans z)
theorem zao {α:Type} {f:Addr→Option α} {a b:Addr} {x:α} (h:b≠a):zab f a x b=f b:=if_neg h
theorem zbT {α:Type} {X:Addr→Option α} {a:Addr} {o:α} {P:Addr→α→Prop} (h1:P a o) (h2:∀ b o',X b=some o'→P b o') (b:Addr) (o':α) (q:zab X a o b=some o'):P b o':=
 if z:b=a then z ▸ Option.some.inj (zai.symm.trans (z ▸ q)) ▸ h1 else h2 b o' ((zao z).symm.trans q)
noncomputable def Le (K K':Fz):Prop:=∀ a o,K a=some o→K' a=some o
theorem Le.rfl {K:Fz}:Le K K:=fun _ _ h=>h
theorem Le.trans {K K' K'':Fz} (h:Le K K') (h':Le K' K''):Le K K'':=fun a o x=>h' a o (h a o x)
noncomputable abbrev zbf (vs:Array Value) (n:Nat):Obj:=⟨.type "tuple",none,.seq vs n,#[]⟩
noncomputable abbrev za3 (vs:Array Value) (n:Nat):Obj:=⟨.type "list",none,.seq vs n,#[]⟩
mutual
noncomputable def Rep (K:Fz):V→Value→Prop
 | .none,v=>v=.none
 | .bool b,v=>v=.bool b
 | .int i,v=>∃ t,v=.int i t
 | .str s,v=>∃ t,v=.str s t
 | .bytes b,v=>∃ t,v=.bytes b t
 | .tup l,v=>∃ a n vs,v=.ref a∧K a=some (zbf vs n)∧zaf K l vs.toList
 | .ref a,v=>v=.ref a
 | .raw w,v=>v=w
noncomputable def zaf (K:Fz):List V→List Value→Prop
 | [],vs=>vs=[]
 | x::l,vs=>∃ v r,vs=v::r∧Rep K x v∧zaf K l r
end
mutual
theorem Rep.mono {K K':Fz} (h:∀ a vs n,K a=some (zbf vs n)→K' a=some (zbf vs n)):∀ (x:V) (v:Value),Rep K x v→Rep K' x v
 | .none,_,r=>by unfold Rep at r ⊢; exact r
 | .bool _,_,r=>by unfold Rep at r ⊢; exact r
 | .int _,_,r=>by unfold Rep at r ⊢; exact r
 | .str _,_,r=>by unfold Rep at r ⊢; exact r
 | .bytes _,_,r=>by unfold Rep at r ⊢; exact r
 | .tup l,_,r=>by
  unfold Rep at r ⊢
  obtain ⟨a,n,vs,e,k,q⟩:=r
  exact ⟨a,n,vs,e,h _ _ _ k,zaf.mono h l _ q⟩
 | .ref _,_,r=>by unfold Rep at r ⊢; exact r
 | .raw _,_,r=>by unfold Rep at r ⊢; exact r
theorem zaf.mono {K K':Fz} (h:∀ a vs n,K a=some (zbf vs n)→K' a=some (zbf vs n)):∀ (l:List V) (vs:List Value),zaf K l vs→zaf K' l vs
 | [],_,r=>by unfold zaf at r ⊢; exact r
 | x::l,_,r=>by
  unfold zaf at r ⊢
  obtain ⟨v,r',e,p,q⟩:=r
  exact ⟨v,r',e,Rep.mono h x v p,zaf.mono h l _ q⟩
end
theorem Rep.le {K K':Fz} (h:Le K K') {x:V} {v:Value} (r:Rep K x v):Rep K' x v:=Rep.mono (fun _ _ _ e=>h _ _ e) x v r
theorem zaf.le {K K':Fz} (h:Le K K') {l:List V} {vs:List Value} (r:zaf K l vs):zaf K' l vs:=zaf.mono (fun _ _ _ e=>h _ _ e) l vs r
section
variable {K:Fz} {v:Value} {x:V} {l:List V} {vs:List Value}
theorem Rep.int_iff {i:Int}:Rep K (.int i) v↔∃ t,v=.int i t:=by unfold Rep; exact Iff.rfl
theorem Rep.str_iff {i:Str}:Rep K (.str i) v↔∃ t,v=.str i t:=by unfold Rep; exact Iff.rfl
theorem Rep.bytes_iff {i:Array UInt8}:Rep K (.bytes i) v↔∃ t,v=.bytes i t:=by unfold Rep; exact Iff.rfl
theorem Rep.bool_iff {b:Bool}:Rep K (.bool b) v↔v=.bool b:=by unfold Rep; exact Iff.rfl
theorem Rep.none_iff:Rep K .none v↔v=.none:=by unfold Rep; exact Iff.rfl
theorem Rep.ref_iff {a:Addr}:Rep K (.ref a) v↔v=.ref a:=by unfold Rep; exact Iff.rfl
theorem Rep.raw_iff {a:Value}:Rep K (.raw a) v↔v=a:=by unfold Rep; exact Iff.rfl
theorem Rep.tup_iff:Rep K (.tup l) v↔∃ a n vs,v=.ref a∧K a=some (zbf vs n)∧zaf K l vs.toList:=by unfold Rep; exact Iff.rfl
theorem zaf.nil_iff:zaf K [] vs↔vs=[]:=by unfold zaf; exact Iff.rfl
theorem zaf.cons_iff:zaf K (x::l) vs↔∃ v r,vs=v::r∧Rep K x v∧zaf K l r:=by rw [zaf]
theorem zaf.nil:zaf K [] []:=zaf.nil_iff.mpr rfl
theorem zaf.cons (p:Rep K x v) (q:zaf K l vs):zaf K (x::l) (v::vs):=zaf.cons_iff.mpr ⟨v,vs,rfl,p,q⟩
theorem zaf.length:∀ {l:List V} {vs:List Value},zaf K l vs→vs.length=l.length
 | [],_,r=>by rw [zaf.nil_iff.mp r]; rfl
 | _::_,_,r=>by obtain ⟨v,r',rfl,_,q⟩:=zaf.cons_iff.mp r; simp [zaf.length q]
theorem zaf.append:∀ {l l':List V} {vs vs':List Value},zaf K l vs→zaf K l' vs'→zaf K (l++l') (vs++vs')
 | [],_,_,_,r,r'=>by rw [zaf.nil_iff.mp r]; exact r'
 | _::_,_,_,_,r,r'=>by obtain ⟨v,r'',rfl,p,q⟩:=zaf.cons_iff.mp r; exact zaf.cons p (zaf.append q r')
theorem zaf.get:∀ {l:List V} {vs:List Value} (i:Nat) {x:V},zaf K l vs→l[i]?=some x→∃ v,vs[i]?=some v∧Rep K x v
 | _::_,_,0,_,r,e=>by obtain ⟨v,r'',rfl,p,q⟩:=zaf.cons_iff.mp r; simp at e; subst e; exact ⟨v,rfl,p⟩
 | _::_,_,i+1,_,r,e=>by obtain ⟨v,r'',rfl,p,q⟩:=zaf.cons_iff.mp r; simpa using zaf.get i q (by simpa using e)
theorem zaf.set:∀ {l:List V} {vs:List Value} (i:Nat) {x:V} {v:Value},zaf K l vs→Rep K x v→zaf K (l.set i x) (vs.set i v)
 | [],_,_,_,_,r,_=>by rw [zaf.nil_iff.mp r]; exact zaf.nil
 | _::_,_,0,_,_,r,p=>by obtain ⟨v,r'',rfl,_,q⟩:=zaf.cons_iff.mp r; exact zaf.cons p q
 | _::_,_,i+1,_,_,r,p=>by obtain ⟨v,r'',rfl,p',q⟩:=zaf.cons_iff.mp r; exact zaf.cons p' (zaf.set i q p)
theorem zaf.take:∀ {l:List V} {vs:List Value} (i:Nat),zaf K l vs→zaf K (l.take i) (vs.take i)
 | _,_,0,_=>by simp; exact zaf.nil
 | [],_,_+1,r=>by rw [zaf.nil_iff.mp r]; simp; exact zaf.nil
 | _::_,_,i+1,r=>by obtain ⟨v,r'',rfl,p',q⟩:=zaf.cons_iff.mp r; exact zaf.cons p' (zaf.take i q)
theorem zaf.drop:∀ {l:List V} {vs:List Value} (i:Nat),zaf K l vs→zaf K (l.drop i) (vs.drop i)
 | _,_,0,r=>by simpa using r
 | [],_,_+1,r=>by rw [zaf.nil_iff.mp r]; simp; exact zaf.nil
 | _::_,_,i+1,r=>by obtain ⟨v,r'',rfl,p',q⟩:=zaf.cons_iff.mp r; simpa using zaf.drop i q
end
noncomputable def fnm:List Str:=[S "cells",S "is_wrapped",S "size",S "rows",S "columns",S "lines",S "most",S "gone",S "first",S "begins",S "is_whole",S "row",S "column",S "is_waiting",S "spots",
 S "wide",S "marks",S "joiners",S "states",S "kept",S "made",S "names",S "left",S "right",S "shift",S "pen",S "is_origin",S "is_guarding",S "top",S "bottom",S "stops",
 S "modes",S "widths",S "history",S "grid",S "cursor",S "margins",S "tabs",S "charsets",S "saved",S "last",S "has_right"]
noncomputable def zaM (i:Nat):Str:=(fnm[i]?).getD (S "?")
noncomputable def ze4:List (Nat × List Nat):=[(251,[0,1,2]),(396,[3,4,5]),(478,[6,5,7]),(532,[8,2,9,0,10]),(644,[4,5,8,11,12,13,14]),(716,[15,16,17]),(792,[18,19]),(920,[20,21,22,23,24]),(976,[11,12,13,25,26,27]),(1109,[3,4,28,29,22,23]),(1208,[4,30]),(1485,[3,4,31,32,33,34,35,36,37,38,39,40,41])]
noncomputable def zdV (C:Nat):List Nat:=(ze4.lookup C).getD []
noncomputable def zdg:List Nat:=ze4.map (·.1)
noncomputable def okF (C f:Nat):Bool:=(zdV C).contains f
noncomputable def zbh (P:Params) (K:Fz):List DictEntry→List (Nat × V)→Prop
 | es,[]=>es=[]
 | es,(i,x)::fs=>∃ e r,es=e::r∧(∃ t,e.key=.str (zaM i) t)∧e.hash=PyData.keyHash P (zaM i)∧Rep K x e.val∧zbh P K r fs
noncomputable def Kvs {α:Type} (K:Fz):List (α × Value)→List (α × V)→Prop
 | kvs,[]=>kvs=[]
 | kvs,(k,x)::l=>∃ v r,kvs=(k,v)::r∧Rep K x v∧Kvs K r l
theorem zbh.le {P:Params} {K K':Fz} (h:∀ a vs n,K a=some (zbf vs n)→K' a=some (zbf vs n)):∀ {fs:List (Nat × V)} {es:List DictEntry},zbh P K es fs→zbh P K' es fs
 | [],_,r=>r
 | _::_,_,⟨e,r,h1,h2,h3,h4,h5⟩=>⟨e,r,h1,h2,h3,Rep.mono h _ _ h4,zbh.le h h5⟩
theorem Kvs.le {α:Type} {K K':Fz} (h:∀ a vs n,K a=some (zbf vs n)→K' a=some (zbf vs n)):∀ {l:List (α × V)} {kvs:List (α × Value)},Kvs K kvs l→Kvs K' kvs l
 | [],_,r=>r
 | _::_,_,⟨v,r,h1,h2,h3⟩=>⟨v,r,h1,Rep.mono h _ _ h2,Kvs.le h h3⟩
noncomputable def zqo (fs:List (Nat × V)):Prop:=(fs.map (·.1)).Nodup
noncomputable def zcl (w:World) (K:Fz) (D:Addr→Addr) (h:Heap) (a:Addr):MO→Prop
 | .list l=>∃ vs n,h.get? a=some (za3 vs n)∧zaf K l vs.toList
 | .dict l=>a≠sysModules∧∃ kvs,h.DictOf (strKind prg w) a kvs∧Kvs K kvs l
 | .dictB l=>a≠sysModules∧∃ kvs,h.DictOf (bytesKind prg w) a kvs∧Kvs K kvs l
 | .inst C fs=>h.get? a=some (instObj C (D a))∧∃ es n,h.get? (D a)=some (dictOf es n)∧zbh w.params K es fs∧∀ p ∈ fs,okF C p.1=true
structure zda (w:World) (K X:Fz) (H:Hp) (D:Addr→Addr) (h:Heap):Prop where
 at_:∀ a m,H a=some m→zcl w K D h a m
 free:∀ a m,H a=some m→K a=none∧X a=none
 dfree:∀ a C fs,H a=some (.inst C fs)→(K (D a)=none∧X (D a)=none)∧H (D a)=none
 inj:∀ a b C fs C' fs',H a=some (.inst C fs)→H b=some (.inst C' fs')→D a=D b→a=b
structure Sat (w:World) (h₀:Heap) (os₀:OsState) (K X:Fz) (H:Hp) (s:Shared):Prop where
 base:∀ b o,h₀.get? b=some o→K b=some o
 keep:∀ b o,K b=some o→s.heap.get? b=some o
 keepX:∀ b o,X b=some o→s.heap.get? b=some o
 apart:∀ b o,X b=some o→K b=none
 gens:s.gens=#[]
 os:s.os=os₀
 objs:∃ D,zda w K X H D s.heap
theorem ltS {h:Heap} {a:Nat} {o:Obj} (e:h.get? a=some o):@LT.lt Nat instLTNat a h.objs.size:=Heap.lt_size e
theorem zaR {a b:Nat} (h:a≠b):@Ne Addr a b:=h
section
variable {w:World} {h₀:Heap} {os₀:OsState} {K X:Fz} {H:Hp} {s:Shared}
theorem Sat.stays (x:Sat w h₀ os₀ K X H s):∀ b o,h₀.get? b=some o→s.heap.get? b=some o:=fun b o e=>x.keep b o (x.base b o e)
theorem zda.lt {D:Addr→Addr} {h:Heap} (O:zda w K X H D h) {a:Addr} {m:MO} (e:H a=some m):@LT.lt Nat instLTNat a h.objs.size:=by
 have:=O.at_ _ _ e
 induction m with
 | list l=>obtain ⟨vs,n,e,_⟩:=this; exact ltS e
 | dict l=>obtain ⟨_,kvs,⟨o,_,_,e,_⟩,_⟩:=this; exact ltS e
 | dictB l=>obtain ⟨_,kvs,⟨o,_,_,e,_⟩,_⟩:=this; exact ltS e
 | inst C fs=>exact ltS this.1
theorem zda.ltD {D:Addr→Addr} {h:Heap} (O:zda w K X H D h) {a C:Addr} {fs:List (Nat × V)} (e:H a=some (.inst C fs)):@LT.lt Nat instLTNat (D a) h.objs.size:=by
 obtain ⟨_,es,n,e2,_⟩:=O.at_ _ _ e
 exact ltS e2
theorem Sat.freshI (x:Sat w h₀ os₀ K X H s) (i:Nat):K (s.heap.objs.size+i)=none∧X (s.heap.objs.size+i)=none∧H (s.heap.objs.size+i)=none:=by
 obtain ⟨D,O⟩:=x.objs
 refine ⟨?_,?_,?_⟩
 ·induction q:K (s.heap.objs.size+i) with
  | none=>rfl
  | some o=>have:=ltS (x.keep _ _ q); lia
 ·induction q:X (s.heap.objs.size+i) with
  | none=>rfl
  | some o=>have:=ltS (x.keepX _ _ q); lia
 ·induction q:H (s.heap.objs.size+i) with
  | none=>rfl
  | some m=>have:=O.lt q; lia
theorem Sat.fresh (x:Sat w h₀ os₀ K X H s):K s.heap.objs.size=none∧X s.heap.objs.size=none∧H s.heap.objs.size=none:=x.freshI 0
theorem Sat.of_heap (x:Sat w h₀ os₀ K X H s) {s':Shared} (eh:s'.heap=s.heap) (eg:s'.gens=s.gens) (eo:s'.os=s.os):Sat w h₀ os₀ K X H s':=
 ⟨x.base,fun b o e=>by rw [eh]; exact x.keep b o e,fun b o e=>by rw [eh]; exact x.keepX b o e,x.apart,eg.trans x.gens,eo.trans x.os,let ⟨D,O⟩:=x.objs; ⟨D,by rw [eh]; exact O⟩⟩
theorem zcl.keeps {D:Addr→Addr} {h h':Heap} {K':Fz} {a:Addr} {m:MO} (k:∀ a vs n,K a=some (zbf vs n)→K' a=some (zbf vs n)) (x:zcl w K D h a m) (e:∀ b o,(b=a∨(b=D a∧∃ C fs,m=.inst C fs))→h.get? b=some o→h'.get? b=some o):zcl w K' D h' a m:=by
 induction m with
 | list l=>obtain ⟨vs,n,e1,r⟩:=x; exact ⟨vs,n,e _ _ (.inl rfl) e1,zaf.mono k _ _ r⟩
 | dict l=>obtain ⟨ns,kvs,⟨o,es,ep,e1,r0⟩,r⟩:=x; exact ⟨ns,kvs,⟨o,es,ep,e _ _ (.inl rfl) e1,r0⟩,Kvs.le k r⟩
 | dictB l=>obtain ⟨ns,kvs,⟨o,es,ep,e1,r0⟩,r⟩:=x; exact ⟨ns,kvs,⟨o,es,ep,e _ _ (.inl rfl) e1,r0⟩,Kvs.le k r⟩
 | inst C fs=>obtain ⟨e1,es,n,e2,r,q⟩:=x; exact ⟨e _ _ (.inl rfl) e1,es,n,e _ _ (.inr ⟨rfl,_,_,rfl⟩) e2,zbh.le k r,q⟩
theorem zd0 {K:Fz} {a:Addr} {o:Obj} (h:K a=none):Le K (zab K a o):=fun b o' e=>by
 rw [zao]; · exact e
 intro q; subst q; rw [h] at e; injection e
theorem Sat.freeze (x:Sat w h₀ os₀ K X H s) (o:Obj) (hf:o.isFreed=false) {t:Nat} :
  Sat w h₀ os₀ (zab K s.heap.objs.size o) X H { s with heap:=s.heap.push o,toks:=t }∧Le K (zab K s.heap.objs.size o):=by
 have hfr:=x.fresh
 have hle:Le K (zab K s.heap.objs.size o):=zd0 hfr.1
 refine ⟨⟨fun b o' e=>hle _ _ (x.base b o' e),fun b o' e=>?_,fun b o' e=>Heap.get?_push_of_some _ (x.keepX b o' e),fun b o' e=>?_,x.gens,x.os,?_⟩,hle⟩
 ·unfold zab at e
  split at e
  ·rename_i q; (injection e with e; subst e); subst q; exact Heap.get?_push_size _ hf
  ·exact Heap.get?_push_of_some _ (x.keep b o' e)
 ·rw [zao]; · exact x.apart b o' e
  intro q; subst q; rw [hfr.2.1] at e; injection e
 ·obtain ⟨D,O⟩:=x.objs
  refine ⟨D,⟨fun a m e=>(O.at_ a m e).keeps (fun a vs n q=>hle _ _ q) fun b o' _ q=>Heap.get?_push_of_some _ q,fun a m e=>?_,fun a C fs e=>?_,O.inj⟩⟩
  ·have:=O.lt e
   rw [zao (zaR (by lia))]; exact O.free a m e
  ·have:=O.ltD e
   rw [zao (zaR (by lia))]; exact O.dfree a C fs e
theorem Sat.hold (x:Sat w h₀ os₀ K X H s) (o:Obj) (hf:o.isFreed=false) {t:Nat}:Sat w h₀ os₀ K (zab X s.heap.objs.size o) H { s with heap:=s.heap.push o,toks:=t }:=by
 have hfr:=x.fresh
 refine ⟨x.base,fun b o' e=>Heap.get?_push_of_some _ (x.keep b o' e),fun b o' e=>?_,fun b o' e=>?_,x.gens,x.os,?_⟩
 ·unfold zab at e
  split at e
  ·rename_i q; (injection e with e; subst e); subst q; exact Heap.get?_push_size _ hf
  ·exact Heap.get?_push_of_some _ (x.keepX b o' e)
 ·unfold zab at e
  split at e
  ·rename_i q; subst q; exact hfr.1
  ·exact x.apart b o' e
 ·obtain ⟨D,O⟩:=x.objs
  refine ⟨D,⟨fun a m e=>(O.at_ a m e).keeps (fun a vs n q=>q) fun b o' _ q=>Heap.get?_push_of_some _ q,fun a m e=>?_,fun a C fs e=>?_,O.inj⟩⟩
  ·have:=O.lt e
   rw [zao (zaR (by lia))]; exact O.free a m e
  ·have:=O.ltD e
   rw [zao (zaR (by lia))]; exact O.dfree a C fs e
theorem Sat.drop (x:Sat w h₀ os₀ K X H s) {X':Fz} (h:Le X' X):Sat w h₀ os₀ K X' H s:=by
 have hn:∀ b,X b=none→X' b=none:=fun b e=>by
  induction q:X' b with
  | none=>rfl
  | some o=>rw [h _ _ q] at e; injection e
 obtain ⟨D,O⟩:=x.objs
 exact ⟨x.base,x.keep,fun b o e=>x.keepX _ _ (h _ _ e),fun b o e=>x.apart _ _ (h _ _ e),x.gens,x.os,D,O.at_,fun a m e=>⟨(O.free a m e).1,hn _ (O.free a m e).2⟩,fun a C fs e=>⟨⟨(O.dfree a C fs e).1.1,hn _ (O.dfree a C fs e).1.2⟩,(O.dfree a C fs e).2⟩,O.inj⟩
theorem Sat.alloc (x:Sat w h₀ os₀ K X H s) (o:Obj) (m:MO) (hm:∀ C fs,m≠.inst C fs) (ho:∀ D,zcl w K D (s.heap.push o) s.heap.objs.size m) {t:Nat} :
  Sat w h₀ os₀ K X (zab H s.heap.objs.size m) { s with heap:=s.heap.push o,toks:=t }:=by
 have hfr:=x.fresh
 obtain ⟨D,O⟩:=x.objs
 refine ⟨x.base,fun b o' e=>Heap.get?_push_of_some _ (x.keep b o' e),fun b o' e=>Heap.get?_push_of_some _ (x.keepX b o' e),x.apart,x.gens,x.os,D,⟨fun a m' e=>?_,fun a m' e=>?_,fun a C fs e=>?_,fun a b C fs C' fs' e e'=>?_⟩⟩
 ·unfold zab at e
  split at e
  ·rename_i q; (injection e with e; subst e); subst q; exact ho D
  ·exact (O.at_ a m' e).keeps (fun _ _ _ q=>q) fun b o' _ q=>Heap.get?_push_of_some _ q
 ·unfold zab at e
  split at e
  ·rename_i q; subst q; exact ⟨hfr.1,hfr.2.1⟩
  ·exact O.free a m' e
 ·unfold zab at e
  split at e
  ·(injection e with e; subst e); exact absurd rfl (hm C fs)
  ·refine ⟨(O.dfree a C fs e).1,?_⟩
   have:=O.ltD e
   rw [zao (zaR (by exact zad (.i (.t Va Vb) (.n (.e Va Vb))) rfl this))]; exact (O.dfree a C fs e).2
 ·unfold zab at e e'
  split at e
  ·(injection e with e; subst e); exact absurd rfl (hm C fs)
  ·split at e'
   ·(injection e' with e'; subst e'); exact absurd rfl (hm C' fs')
   ·exact O.inj a b C fs C' fs' e e'
theorem Sat.allocI (x:Sat w h₀ os₀ K X H s) (C:Addr) {t:Nat} :
  H (s.heap.objs.size+1)=none∧Sat w h₀ os₀ K X (zab H (s.heap.objs.size+1) (.inst C [])) { s with heap:=(s.heap.push emptyDict).push (instObj C s.heap.objs.size),toks:=t }:=by
 have f0:=x.freshI 0
 have f1:=x.freshI 1
 obtain ⟨D,O⟩:=x.objs
 have up:∀ b o,s.heap.get? b=some o→((s.heap.push emptyDict).push (instObj C s.heap.objs.size)).get? b=some o:=fun b o e=>Heap.get?_push_of_some _ (Heap.get?_push_of_some _ e)
 have hd:((s.heap.push emptyDict).push (instObj C s.heap.objs.size)).get? s.heap.objs.size=some emptyDict:=Heap.get?_push_of_some _ (Heap.get?_push_size _ rfl)
 have hi:((s.heap.push emptyDict).push (instObj C s.heap.objs.size)).get? (s.heap.objs.size+1)=some (instObj C s.heap.objs.size):=by
  have:=Heap.get?_push_size (s.heap.push emptyDict) (o:=instObj C s.heap.objs.size) rfl
  rwa [Heap.size_push] at this
 refine ⟨f1.2.2,x.base,fun b o' e=>up _ _ (x.keep b o' e),fun b o' e=>up _ _ (x.keepX b o' e),x.apart,x.gens,x.os,fun a=>if a=s.heap.objs.size+1 then s.heap.objs.size else D a,⟨fun a m' e=>?_,fun a m' e=>?_,fun a C' fs e=>?_,fun a b C fs C' fs' e e' hD=>?_⟩⟩
 ·unfold zab at e
  split at e
  ·rename_i q; (injection e with e; subst e); subst q
   refine ⟨?_,[],0,?_,rfl,fun _ h=>nomatch h⟩
   ·simp only [if_true]; exact hi
   ·simp only [if_true]; exact hd
  ·rename_i q
   have:=(O.at_ a m' e).keeps (K':=K) (fun _ _ _ q=>q) (fun b o' _ q=>up b o' q)
   induction m' with
   | list l=>exact this
   | dict l=>exact this
   | dictB l=>exact this
   | inst C' fs=>unfold zcl at this ⊢; simpa only [q,if_false] using this
 ·unfold zab at e
  split at e
  ·rename_i q; subst q; exact ⟨f1.1,f1.2.1⟩
  ·exact O.free a m' e
 ·unfold zab at e
  split at e
  ·rename_i q; subst q
   simp only [if_true]
   refine ⟨⟨f0.1,f0.2.1⟩,?_⟩
   rw [zao (zaR (by exact zag (.n (.e Va (.a Va K1))) rfl))]; exact f0.2.2
  ·rename_i q
   simp only [q,if_false]
   refine ⟨(O.dfree a C' fs e).1,?_⟩
   have:=O.ltD e
   rw [zao (zaR (by exact zad (.i (.t Va Vb) (.n (.e Va (.a Vb K1)))) rfl this))]; exact (O.dfree a C' fs e).2
 ·unfold zab at e e'
  split at e
  ·rename_i q
   split at e'
   ·rename_i q'; rw [q,q']
   ·rename_i q'
    simp only [q,q',if_true,if_false] at hD
    have:=O.ltD e'; exact absurd hD (zaR (zad (.i (.t Va Vb) (.n (.e Vb Va))) rfl this))
  ·rename_i q
   split at e'
   ·rename_i q'
    simp only [q,q',if_true,if_false] at hD
    have:=O.ltD e; exact absurd hD (zaR (zad (.i (.t Va Vb) (.n (.e Va Vb))) rfl this))
   ·rename_i q'
    simp only [q,q',if_false] at hD
    exact O.inj a b C fs C' fs' e e' hD
theorem Sat.update (x:Sat w h₀ os₀ K X H s) {a:Addr} {m m':MO} {h':Heap} (hm:H a=some m) (hs:Heap.SameBut a s.heap h')
  (hc':∀ C fs,m'≠.inst C fs) (hn:∀ D,zcl w K D h' a m') {t:Nat} :
  Sat w h₀ os₀ K X (zab H a m') { s with heap:=h',toks:=t }:=by
 obtain ⟨D,O⟩:=x.objs
 have kn:=O.free _ _ hm
 have nD:∀ b C fs,H b=some (.inst C fs)→D b≠a:=fun b C fs e q=>by have:=(O.dfree b C fs e).2; rw [q,hm] at this; injection this
 refine ⟨x.base,fun b o' e'=>(hs.2 b ?_).trans (x.keep b o' e'),fun b o' e'=>(hs.2 b ?_).trans (x.keepX b o' e'),x.apart,x.gens,x.os,D,⟨fun b m'' e'=>?_,fun b m'' e'=>?_,fun b C fs e'=>?_,fun b c C fs C' fs' e' e''=>?_⟩⟩
 ·intro q; subst q; rw [kn.1] at e'; injection e'
 ·intro q; subst q; rw [kn.2] at e'; injection e'
 ·unfold zab at e'
  split at e'
  ·rename_i q; (injection e' with e'; subst e'); subst q; exact hn D
  ·rename_i q
   refine (O.at_ b m'' e').keeps (fun _ _ _ q=>q) fun c o' hc0 q'=>(hs.2 c ?_).trans q'
   rcases hc0 with rfl | ⟨rfl,C,fs,rfl⟩
   ·exact q
   ·exact nD _ _ _ e'
 ·unfold zab at e'
  split at e'
  ·rename_i q; subst q; exact kn
  ·exact O.free b m'' e'
 ·unfold zab at e'
  split at e'
  ·(injection e' with e'; subst e'); exact absurd rfl (hc' C fs)
  ·rename_i q
   refine ⟨(O.dfree b C fs e').1,?_⟩
   rw [zao (nD _ _ _ e')]; exact (O.dfree b C fs e').2
 ·unfold zab at e' e''
  split at e'
  ·(injection e' with e'; subst e'); exact absurd rfl (hc' C fs)
  ·split at e''
   ·(injection e'' with e''; subst e''); exact absurd rfl (hc' C' fs')
   ·exact O.inj b c C fs C' fs' e' e''
theorem Sat.updI (x:Sat w h₀ os₀ K X H s) {a C:Addr} {fs:List (Nat × V)} (hm:H a=some (.inst C fs)) :
  ∃ d es n,s.heap.get? a=some (instObj C d)∧s.heap.get? d=some (dictOf es n)∧zbh w.params K es fs∧(∀ p ∈ fs,okF C p.1=true) ∧
   ∀ (f:Obj→Obj) es' n' fs' t,f (dictOf es n)=dictOf es' n'→zbh w.params K es' fs'→(∀ p ∈ fs',okF C p.1=true)→Sat w h₀ os₀ K X (zab H a (.inst C fs')) { s with heap:=s.heap.update d f,toks:=t }:=by
 obtain ⟨D,O⟩:=x.objs
 obtain ⟨h1,es,n,h2,h3,h4⟩:=O.at_ _ _ hm
 obtain ⟨kd,hd⟩:=O.dfree _ _ _ hm
 refine ⟨D a,es,n,h1,h2,h3,h4,fun f es' n' fs' t e q q2=>?_⟩
 have nK:∀ b o,K b=some o→b≠D a:=fun b o e q=>by rw [q,kd.1] at e; injection e
 have nX:∀ b o,X b=some o→b≠D a:=fun b o e q=>by rw [q,kd.2] at e; injection e
 have nH:∀ b m,H b=some m→b≠D a:=fun b m e q=>by rw [q,hd] at e; injection e
 refine ⟨x.base,fun b o' e'=>by rw [Heap.get?_update_ne _ _ _ _ (nK _ _ e')]; exact x.keep b o' e',fun b o' e'=>by rw [Heap.get?_update_ne _ _ _ _ (nX _ _ e')]; exact x.keepX b o' e',x.apart,x.gens,x.os,D,⟨fun b m'' e'=>?_,fun b m'' e'=>?_,fun b C fs e'=>?_,fun b c C1 fs1 C2 fs2 e' e''=>?_⟩⟩
 ·unfold zab at e'
  split at e'
  ·rename_i q0
   (injection e' with e'; subst e'); subst q0
   refine ⟨by rw [Heap.get?_update_ne _ _ _ _ (nH _ _ hm)]; exact h1,es',n',?_,q,q2⟩
   rw [← e]; exact Heap.get?_update_self _ h2 (by rw [e]; rfl)
  ·rename_i q0
   refine (O.at_ b m'' e').keeps (fun _ _ _ q=>q) fun c o' hc0 q'=>?_
   have hne:c≠D a:=by
    rcases hc0 with rfl | ⟨rfl,C',fs'',rfl⟩
    ·exact nH _ _ e'
    ·exact fun z=>q0 (O.inj _ _ _ _ _ _ e' hm z)
   rw [Heap.get?_update_ne _ _ _ _ hne]; exact q'
 ·unfold zab at e'
  split at e'
  ·rename_i q0; subst q0; exact O.free _ _ hm
  ·exact O.free b m'' e'
 ·unfold zab at e'
  split at e'
  ·rename_i q0
   (injection e' with e'; injection e' with e'; subst e'); subst q0
   exact ⟨kd,by rw [zao (nH _ _ hm).symm]; exact hd⟩
  ·rename_i q0
   refine ⟨(O.dfree b C fs e').1,?_⟩
   rw [zao]; · exact (O.dfree b C fs e').2
   intro z; have:=(O.dfree b C fs e').2; rw [z,hm] at this; injection this
 ·unfold zab at e' e''
  split at e'
  ·rename_i q0
   (injection e' with e'; injection e' with e'; subst e'); subst q0
   split at e''
   ·rename_i q1; exact fun _=>q1.symm
   ·exact O.inj _ _ _ _ _ _ hm e''
  ·split at e''
   ·rename_i q1
    (injection e'' with e''; injection e'' with e''; subst e''); subst q1
    exact O.inj _ _ _ _ _ _ e' hm
   ·exact O.inj b c C1 fs1 C2 fs2 e' e''
theorem Sat.change (x:Sat w h₀ os₀ K X H s) {a:Addr} {o o':Obj} {h':Heap} (hk:X a=some o) (hs:Heap.SameBut a s.heap h') (e:h'.get? a=some o') {t:Nat} :
  Sat w h₀ os₀ K (zab X a o') H { s with heap:=h',toks:=t }:=by
 obtain ⟨D,O⟩:=x.objs
 have ka:=x.apart _ _ hk
 have nH:∀ b m,H b=some m→b≠a:=fun b m e q=>by have:=(O.free _ _ e).2; rw [q,hk] at this; injection this
 have nD:∀ b C fs,H b=some (.inst C fs)→D b≠a:=fun b C fs e q=>by have:=(O.dfree _ _ _ e).1.2; rw [q,hk] at this; injection this
 refine ⟨x.base,fun b ob q=>(hs.2 b ?_).trans (x.keep _ _ q),fun b ob q=>?_,fun b ob q=>?_,x.gens,x.os,D,⟨fun b m q=>?_,fun b m q=>?_,fun b C fs q=>?_,O.inj⟩⟩
 ·intro z; subst z; rw [ka] at q; injection q
 ·unfold zab at q
  split at q
  ·rename_i z; (injection q with q; subst q); subst z; exact e
  ·rename_i z; exact (hs.2 b z).trans (x.keepX _ _ q)
 ·unfold zab at q
  split at q
  ·rename_i z; subst z; exact ka
  ·exact x.apart _ _ q
 ·refine (O.at_ b m q).keeps (fun _ _ _ q=>q) fun c oc hc qc=>(hs.2 c ?_).trans qc
  rcases hc with rfl | ⟨rfl,C,fs,rfl⟩
  ·exact nH _ _ q
  ·exact nD _ _ _ q
 ·rw [zao (nH _ _ q)]; exact O.free _ _ q
 ·rw [zao (nD _ _ _ q)]; exact O.dfree _ _ _ q
theorem Sat.thaw (x:Sat w h₀ os₀ K X H s) {a:Addr} {o:Obj} {m:MO} {h':Heap} {X':Fz} (hk:X a=some o) (hX:Le X' X) (hXa:X' a=none) (hm:∀ C fs,m≠.inst C fs) (hs:Heap.SameBut a s.heap h')
  (e:∀ D,zcl w K D h' a m) {t:Nat}:H a=none∧Sat w h₀ os₀ K X' (zab H a m) { s with heap:=h',toks:=t }:=by
 obtain ⟨D,O⟩:=x.objs
 have ka:=x.apart _ _ hk
 have hn:∀ b,X b=none→X' b=none:=fun b e=>by
  induction q:X' b with
  | none=>rfl
  | some o=>rw [hX _ _ q] at e; injection e
 have nH:∀ b m,H b=some m→b≠a:=fun b m e q=>by have:=(O.free _ _ e).2; rw [q,hk] at this; injection this
 have nD:∀ b C fs,H b=some (.inst C fs)→D b≠a:=fun b C fs e q=>by have:=(O.dfree _ _ _ e).1.2; rw [q,hk] at this; injection this
 refine ⟨?_,x.base,fun b ob q=>(hs.2 b ?_).trans (x.keep _ _ q),fun b ob q=>(hs.2 b ?_).trans (x.keepX _ _ (hX _ _ q)),fun b ob q=>x.apart _ _ (hX _ _ q),x.gens,x.os,D,⟨fun b m' q=>?_,fun b m' q=>?_,fun b C fs q=>?_,fun b c C fs C' fs' q q'=>?_⟩⟩
 ·induction q:H a with
  | none=>rfl
  | some m=>exact absurd rfl (nH _ _ q)
 ·intro z; subst z; rw [ka] at q; injection q
 ·intro z; subst z; rw [hXa] at q; injection q
 ·unfold zab at q
  split at q
  ·rename_i z; (injection q with q; subst q); subst z; exact e D
  ·refine (O.at_ b m' q).keeps (fun _ _ _ q=>q) fun c oc hc qc=>(hs.2 c ?_).trans qc
   rcases hc with rfl | ⟨rfl,C,fs,rfl⟩
   ·exact nH _ _ q
   ·exact nD _ _ _ q
 ·unfold zab at q
  split at q
  ·rename_i z; subst z; exact ⟨ka,hXa⟩
  ·exact ⟨(O.free _ _ q).1,hn _ (O.free _ _ q).2⟩
 ·unfold zab at q
  split at q
  ·(injection q with q; subst q); exact absurd rfl (hm C fs)
  ·refine ⟨⟨(O.dfree _ _ _ q).1.1,hn _ (O.dfree _ _ _ q).1.2⟩,?_⟩
   rw [zao (nD _ _ _ q)]; exact (O.dfree _ _ _ q).2
 ·unfold zab at q q'
  split at q
  ·(injection q with q; subst q); exact absurd rfl (hm C fs)
  ·split at q'
   ·(injection q' with q'; subst q'); exact absurd rfl (hm C' fs')
   ·exact O.inj _ _ _ _ _ _ q q'
theorem Sat.ext (x:Sat w h₀ os₀ K X H s) {h':Heap} {F:Addr→Prop} {K' X':Fz} (hF:∀ b,F b→∃ o,X b=some o) (hk:∀ b o,¬ F b→s.heap.get? b=some o→h'.get? b=some o)
  (leK:Le K K') (hK:∀ b o,K' b=some o→K b=some o∨(@LE.le Nat instLENat s.heap.objs.size b∧h'.get? b=some o)) (hX:∀ b o,X' b=some o→K' b=none∧h'.get? b=some o∧(X b≠none∨@LE.le Nat instLENat s.heap.objs.size b)) {t:Nat} :
  Sat w h₀ os₀ K' X' H { s with heap:=h',toks:=t }:=by
 obtain ⟨D,O⟩:=x.objs
 have nF:∀ b,X b=none→¬ F b:=fun b e f=>by obtain ⟨o,q⟩:=hF b f; rw [e] at q; injection q
 have nK:∀ b o,K b=some o→¬ F b:=fun b o e f=>by obtain ⟨o',q⟩:=hF b f; rw [x.apart _ _ q] at e; injection e
 have kN:∀ b,K b=none→@LT.lt Nat instLTNat b s.heap.objs.size→K' b=none:=fun b e l=>by
  induction q:K' b with
  | none=>rfl
  | some o =>
   rcases hK b o q with h | h
   ·rw [e] at h; injection h
   ·exact absurd h.1 (Nat.not_le_of_lt l)
 have xN:∀ b,X b=none→@LT.lt Nat instLTNat b s.heap.objs.size→X' b=none:=fun b e l=>by
  induction q:X' b with
  | none=>rfl
  | some o =>
   rcases (hX b o q).2.2 with h | h
   ·exact absurd e h
   ·exact absurd h (Nat.not_le_of_lt l)
 refine ⟨fun b o e=>leK _ _ (x.base b o e),fun b o e=>?_,fun b o e=>(hX b o e).2.1,fun b o e=>(hX b o e).1,x.gens,x.os,D,⟨fun a m e=>?_,fun a m e=>?_,fun a C fs e=>?_,O.inj⟩⟩
 ·rcases hK b o e with h | h
  ·exact hk _ _ (nK _ _ h) (x.keep _ _ h)
  ·exact h.2
 ·refine (O.at_ a m e).keeps (fun _ _ _ q=>leK _ _ q) fun b o hb q=>hk b o (nF b ?_) q
  rcases hb with rfl | ⟨rfl,C,fs,rfl⟩
  ·exact (O.free _ _ e).2
  ·exact (O.dfree _ _ _ e).1.2
 ·exact ⟨kN _ (O.free _ _ e).1 (O.lt e),xN _ (O.free _ _ e).2 (O.lt e)⟩
 ·exact ⟨⟨kN _ (O.dfree _ _ _ e).1.1 (O.ltD e),xN _ (O.dfree _ _ _ e).1.2 (O.ltD e)⟩,(O.dfree _ _ _ e).2⟩
theorem Sat.ext1 (x:Sat w h₀ os₀ K X H s) {h':Heap} {o:Obj} (hk:∀ b o,s.heap.get? b=some o→h'.get? b=some o) (ho:h'.get? s.heap.objs.size=some o) {t:Nat} :
  Sat w h₀ os₀ K (zab X s.heap.objs.size o) H { s with heap:=h',toks:=t }:=
 Sat.ext x (F:=fun _=>False) (fun _ f=>f.elim) (fun b o _ q=>hk b o q) Le.rfl (fun b o q=>.inl q) (zbT ⟨x.fresh.1,ho,.inr (Nat.le_refl _)⟩ fun b ob q=>⟨x.apart _ _ q,hk _ _ (x.keepX _ _ q),.inl (za5 q)⟩)
end
set_option genInjectivity false in
set_option genSizeOf false in
structure Wx where
 w:World
 h₀:Heap
 os₀:OsState
 p:Program
 loose:List Str
 mg:Str→Option Value
 mb:Str→Option Value
 says:Says w h₀
 top:TopRead p loose mg mb h₀
noncomputable abbrev Wx.M (W:Wx):Model:=model prg W.w
noncomputable abbrev Wx.Sat (W:Wx) (K X:Fz) (H:Hp) (s:Shared):Prop:=Mine.Sat W.w W.h₀ W.os₀ K X H s
structure zaw (d:Nat) (A:Around):Prop where
 handled:A.handled=none
 depth:A.depth+10 * d≤900
 units:A.units+100 * d≤9000
noncomputable abbrev Ro:=List (Option V)
inductive zaY (W:Wx) (K X:Fz) (R:V→Hp→Prop) (v:Value) (s':Shared):Prop
 | mk (K':Fz) (x:V) (H':Hp) (le:Le K K') (hS:W.Sat K' X H' s') (rv:Rep K' x v) (h:R x H')
noncomputable abbrev NoE:Value→Shared→Prop:=fun _ _=>False
noncomputable def OpW (W:Wx) (d:Nat) (t:List Value→Sem Value) (args:List V) (H:Hp) (R:V→Hp→Prop):Prop:=
 ∀ A s K X vs,zaw d A→W.Sat K X H s→zaf K args vs→wpAny W.M A (t vs) (zaY W K X R) NoE s
inductive PE (W:Wx) (K X:Fz) (R:Hp→Prop) (s':Shared):Prop
 | mk (K':Fz) (H':Hp) (le:Le K K') (hS:W.Sat K' X H' s') (h:R H')
noncomputable def zbg (W:Wx) (d:Nat) (t:List Value→Sem Unit) (args:List V) (H:Hp) (R:Hp→Prop):Prop:=
 ∀ A s K X vs,zaw d A→W.Sat K X H s→zaf K args vs→wpAny W.M A (t vs) (fun _ s'=>PE W K X R s') NoE s
noncomputable def zae (W:Wx) (d:Nat) (f:Value) (args:List V) (H:Hp) (R:V→Hp→Prop):Prop:=
 ∀ A s K X vs,zaw d A→W.Sat K X H s→zaf K args vs→codeAny W.M A (.call f ⟨vs,[]⟩) (fun r s'=>∃ v,r=.ok (.ret v)∧zaY W K X R v s') s
noncomputable abbrev zfA (l u:Value):Obj:={ cls:=.type "slice",data:=.fields #[l,u,.none] }
noncomputable def zdJ (W:Wx) (d:Nat) (a b c:V) (H:Hp) (R:V→Hp→Prop):Prop:=
 ∀ A s K X o sl l u,zaw d A→W.Sat K X H s→Rep K a o→K sl=some (zfA l u)→Rep K b l→Rep K c u→wpAny W.M A (getItem o (.ref sl)) (zaY W K X R) NoE s
noncomputable def zaI (W:Wx) (d:Nat) (f:Value) (args:List V) (H:Hp) (R:V→Hp→Prop):Prop:=
 ∀ A s K X vs,zaw d A→W.Sat K X H s→zaf K args vs→wpAny W.M A (PySem.call f vs) (zaY W K X R) NoE s
noncomputable def zdp (W:Wx) (H:Hp):V→Prop
 | .ref a=>∃ m,H a=some m∧∀ C fs,m≠.inst C fs
 | .tup _=>True
 | .raw v=>∃ a vs n,v=.ref a∧W.h₀.get? a=some ⟨.type "list",none,.seq vs n,#[]⟩
 | _=>False
noncomputable def zc9 (W:Wx) (d:Nat) (m:Str) (o:V) (H:Hp) (f:Value):Prop:=
 ∀ A s K X v pl,zaw d A→W.Sat K X H s→Rep K o v→∀ Q:Value × List Value→Shared→Prop,Q (f,[v]) s→wpAny W.M A (getMethod v m pl) Q NoE s
noncomputable def t1 (f:Value→Sem Value):List Value→Sem Value | [a]=>f a | _=>unsupported ""
noncomputable def t2 (f:Value→Value→Sem Value):List Value→Sem Value | [a,b]=>f a b | _=>unsupported ""
noncomputable def t3 (f:Value→Value→Value→Sem Value):List Value→Sem Value | [a,b,c]=>f a b c | _=>unsupported ""
noncomputable def u2 (f:Value→Value→Sem Unit):List Value→Sem Unit | [a,b]=>f a b | _=>unsupported ""
noncomputable def u3 (f:Value→Value→Value→Sem Unit):List Value→Sem Unit | [a,b,c]=>f a b c | _=>unsupported ""
section
variable {W:Wx} {d:Nat} {H:Hp} {R:V→Hp→Prop}
theorem OpW.one {f:Value→Sem Value} {x:V} (h:∀ A s K X a,zaw d A→W.Sat K X H s→Rep K x a→wpAny W.M A (f a) (zaY W K X R) NoE s):OpW W d (t1 f) [x] H R:=by
 intro A s K X vs hA hS hr
 obtain ⟨a,r,rfl,h1,h2⟩:=zaf.cons_iff.mp hr
 rw [zaf.nil_iff.mp h2]
 exact h A s K X a hA hS h1
theorem OpW.two {f:Value→Value→Sem Value} {x y:V} (h:∀ A s K X a b,zaw d A→W.Sat K X H s→Rep K x a→Rep K y b→wpAny W.M A (f a b) (zaY W K X R) NoE s):OpW W d (t2 f) [x,y] H R:=by
 intro A s K X vs hA hS hr
 obtain ⟨a,r,rfl,h1,h2⟩:=zaf.cons_iff.mp hr
 obtain ⟨b,r,rfl,h3,h4⟩:=zaf.cons_iff.mp h2
 rw [zaf.nil_iff.mp h4]
 exact h A s K X a b hA hS h1 h3
theorem zbg.two {R:Hp→Prop} {f:Value→Value→Sem Unit} {x y:V} (h:∀ A s K X a b,zaw d A→W.Sat K X H s→Rep K x a→Rep K y b→wpAny W.M A (f a b) (fun _ s'=>PE W K X R s') NoE s):zbg W d (u2 f) [x,y] H R:=by
 intro A s K X vs hA hS hr
 obtain ⟨a,r,rfl,h1,h2⟩:=zaf.cons_iff.mp hr
 obtain ⟨b,r,rfl,h3,h4⟩:=zaf.cons_iff.mp h2
 rw [zaf.nil_iff.mp h4]
 exact h A s K X a b hA hS h1 h3
theorem zbg.three {R:Hp→Prop} {f:Value→Value→Value→Sem Unit} {x y z:V} (h:∀ A s K X a b c,zaw d A→W.Sat K X H s→Rep K x a→Rep K y b→Rep K z c→wpAny W.M A (f a b c) (fun _ s'=>PE W K X R s') NoE s):zbg W d (u3 f) [x,y,z] H R:=by
 intro A s K X vs hA hS hr
 obtain ⟨a,r,rfl,h1,h2⟩:=zaf.cons_iff.mp hr
 obtain ⟨b,r,rfl,h3,h4⟩:=zaf.cons_iff.mp h2
 obtain ⟨c,r,rfl,h5,h6⟩:=zaf.cons_iff.mp h4
 rw [zaf.nil_iff.mp h6]
 exact h A s K X a b c hA hS h1 h3 h5
theorem zax {K X:Fz} {s:Shared} {x:V} {v:Value} {dr t} (hS:W.Sat K X H s) (r:Rep K x v) (h:R x H):zaY W K X R v ⟨s.heap,s.gens,dr,t,s.os⟩:=
 ⟨K,x,H,Le.rfl,hS.of_heap rfl rfl rfl,r,h⟩
theorem zae.mono {f:Value} {args:List V} {R':V→Hp→Prop} (h:zae W d f args H R) (k:∀ x H',R x H'→R' x H'):zae W d f args H R':=
 fun A s K X vs hA hS hr=>codeAny_mono (h A s K X vs hA hS hr) (fun _ _ ⟨v,q,K',x,H',a,b,c,e⟩=>⟨v,q,K',x,H',a,b,c,k _ _ e⟩)
theorem zae.t {f:Value} {args:List V} (h:zae W d f args H R):zaI W d f args H R:=
 fun A s K X vs hA hS hr=>wpAny_call (codeAny_mono (h A s K X vs hA hS hr) fun _ _ ⟨v,q,p⟩=>by subst q; exact p)
theorem zaw.up {d d':Nat} {A:Around} (h:zaw d' A) (le:d≤d'):zaw d A:=⟨h.handled,Nat.le_trans (Nat.add_le_add_left (Nat.mul_le_mul_left _ le) _) h.depth,Nat.le_trans (Nat.add_le_add_left (Nat.mul_le_mul_left _ le) _) h.units⟩
theorem zae.up {d':Nat} {f:Value} {args:List V} (h:zae W d f args H R) (le:d≤d'):zae W d' f args H R:=fun A s K X vs hA hS hr=>h A s K X vs (hA.up le) hS hr
end
inductive Kd where
 | plain | range | enum | zip
set_option genCtorIdx false in
set_option genInjectivity false in
set_option genSizeOf false in
inductive I where
 | lit (v:V) | loc (i:Nat) | sto (i:Nat) | attr (f:Nat) | sattr (f:Nat) | mth (m:Nat) | call (n:Nat) | bin (op:Operator) | cmp (op:CmpOp) | cmpk (op:CmpOp) | neg | notb | chk
 | ite (t e:List I) | tup (n:Nat) | lst (n:Nat) | dct (n:Nat) | idx | sidx | slc | pop | ret | unp (n:Nat) | fr (k:Kd) (n:Nat) (t b:List I) | whl (t b:List I) | lc (k:Kd) (n:Nat) (vs:List (Option Nat)) (t e:List I) | has (vs:List (Option Nat)) | bad
noncomputable abbrev Y0:I:=I.loc 0
noncomputable abbrev Y1:I:=I.loc 1
noncomputable abbrev Y2:I:=I.loc 2
noncomputable abbrev Y3:I:=I.loc 3
noncomputable abbrev Y4:I:=I.loc 4
noncomputable abbrev Y5:I:=I.loc 5
noncomputable abbrev Y6:I:=I.loc 6
noncomputable abbrev Y7:I:=I.loc 7
noncomputable abbrev Y8:I:=I.loc 8
noncomputable abbrev Y9:I:=I.loc 9
noncomputable abbrev Y10:I:=I.loc 10
noncomputable abbrev Y11:I:=I.loc 11
noncomputable abbrev Y12:I:=I.loc 12
noncomputable abbrev Y13:I:=I.loc 13
noncomputable abbrev Y14:I:=I.loc 14
noncomputable abbrev Y15:I:=I.loc 15
noncomputable abbrev Y16:I:=I.loc 16
noncomputable abbrev Y17:I:=I.loc 17
noncomputable abbrev Y18:I:=I.loc 18
noncomputable abbrev iF:I:=I.lit (V.bool false)
noncomputable abbrev iT:I:=I.lit (V.bool true)
noncomputable abbrev iI (n:Int):I:=I.lit (V.int n)
noncomputable def mnm:List Str:=[S "part",S "put",S "equals",S "line",S "is_wide",S "fresh",S "part_above",S "scroll_up",S "push",S "kept_to",S "size_of",S "offset_of",S "go_behind",S "give_up",S "top",
 S "width_of",S "is_on",S "table",S "reset",S "mapped",S "place",S "area",S "put_eighths",S "told",S "resize",S "width_of_line",S "right_bound",S "left_bound",S "is_between_sides",S "is_whole",
 S "put_code",S "place_ahead",S "join",S "is_narrow",S "put_sign",S "advance",S "wrap",S "index",S "keep_within_line",S "carriage_return",S "next_line",S "append",S "extend",S "pop",S "get"]
noncomputable def zbv (i:Nat):Str:=(mnm[i]?).getD (S "?")
noncomputable def Src (H:Hp):Kd→List V→List V→Prop
 | .plain,[.ref a],l=>H a=some (.list l)
 | .plain,[.tup l'],l=>l'=l
 | .range,[.int n],l=>-1000≤n∧n≤1000∧l=(List.range n.toNat).map fun i=>.int i
 | .range,[.int a,.int b],l=>-1000≤a∧a≤1000∧-1000≤b∧b≤1000∧l=(List.range (b - a).toNat).map fun i=>.int (a+i)
 | .range,[.int a,.int b,.int c],l=>0≤a∧a≤1000∧0≤b∧b≤a∧0 < c∧c≤1000∧l=[]
 | .enum,[.ref a],l=>∃ l₀,H a=some (.list l₀)∧l=l₀.zipIdx.map fun p=>.tup [.int p.2,p.1]
 | .zip,[.ref a,.ref b],l=>∃ l₁ l₂,H a=some (.list l₁)∧H b=some (.list l₂)∧l=l₁.zipWith (fun x y=>.tup [x,y]) l₂
 | _,_,_=>False
theorem zpZ {H:Hp} {args l:List V} (h:Src H .range args l):(∃ n,args=[.int n]∧-1000≤n∧n≤1000∧l=(List.range n.toNat).map fun i=>.int i) ∨
  (∃ a b,args=[.int a,.int b]∧-1000≤a∧a≤1000∧-1000≤b∧b≤1000∧l=(List.range (b - a).toNat).map fun i=>.int (a+i)) ∨
  (∃ a b c,args=[.int a,.int b,.int c]∧0≤a∧a≤1000∧0≤b∧b≤a∧0 < c∧c≤1000∧l=[]):=by
 rcases args with _ | ⟨a,r⟩
 ·exact h.elim
 rcases a with _ | _ <;> try exact h.elim
 rcases r with _ | ⟨b,r⟩
 ·exact .inl ⟨_,rfl,h⟩
 rcases b with _ | _ <;> try exact h.elim
 rcases r with _ | ⟨c,r⟩
 ·exact .inr (.inl ⟨_,_,rfl,h⟩)
 rcases c with _ | _ <;> try exact h.elim
 rcases r with _ | ⟨e,r⟩
 ·exact .inr (.inr ⟨_,_,_,rfl,h⟩)
 ·exact h.elim
theorem zpY {H:Hp} {args l:List V} (h:Src H .enum args l):∃ a l₀,args=[.ref a]∧H a=some (.list l₀)∧l=l₀.zipIdx.map fun p=>.tup [.int p.2,p.1]:=by
 rcases args with _ | ⟨a,_ | ⟨b,r⟩⟩
 ·exact h.elim
 ·rcases a with _ | _ <;> first | exact h.elim | exact ⟨_,_,rfl,h.choose_spec⟩
 ·rcases a with _ | _ <;> exact h.elim
theorem zp0 {H:Hp} {args l:List V} (h:Src H .zip args l):∃ a b l₁ l₂,args=[.ref a,.ref b]∧H a=some (.list l₁)∧H b=some (.list l₂)∧l=l₁.zipWith (fun x y=>.tup [x,y]) l₂:=by
 rcases args with _ | ⟨a,_ | ⟨b,_ | ⟨c,r⟩⟩⟩
 ·exact h.elim
 ·rcases a with _ | _ <;> exact h.elim
 ·rcases a with _ | _ <;> try exact h.elim
  rcases b with _ | _ <;> first | exact h.elim | exact ⟨_,_,_,_,rfl,h.choose_spec.choose_spec⟩
 ·rcases a with _ | _ <;> try exact h.elim
  rcases b with _ | _ <;> exact h.elim
inductive Out where
 | nxt (st:List V) (ρ:Ro) (H:Hp) | ret (v:V) (H:Hp)
noncomputable def zf4:List Nat:=[62,69,76,83,90,98,105,112,140,162,169,248,251,267,274,288,293,300,307,388,396,428,442,475,478,487,501,508,515,522,529,532,543,550,557,564,571,578,585,592,606,613,620,634,641,644,655,662,678,685,699,706,716,775,782,792,831,846,853,860,910,920,945,966,973,976,994,1036,1109,1127,1134,1169,1198,1208,1228,1235,1242,1249,1256,1263,1270,1277,1284,1291,1305,1312,1319,1326,1333,1347,1361,1375,1382,1389,1485,1496,1510,1517,1524,1531,1538,1545,1550,1555,1560]
noncomputable def zb2:Value→Bool | .ref a=>zf4.contains a | .builtin _ | .type _=>true | _=>false
noncomputable abbrev zcB:=List I→List V→Ro→Hp→(Out→Prop)→Prop
noncomputable def hd1 (st:List V) (f:V→List V→Prop):Prop:=match st with | x::r=>f x r | []=>False
theorem hd1.mono {f g:V→List V→Prop} (h:∀ x r,f x r→g x r):∀ {st:List V},hd1 st f→hd1 st g
 | _::_,q=>h _ _ q
noncomputable def zcz (A:zcB) (W:Wx) (d:Nat) (i:I) (k:List I) (st:List V) (ρ:Ro) (H:Hp) (Q:Out→Prop):Prop:=
 match i with
 | .has vs=>(∀ j,some j ∈ vs→∃ y,ρ[j]?=some (some y))∧A k st ρ H Q
 | .lit v=>A k (v::st) ρ H Q
 | .loc i=>∃ v,ρ[i]?=some (some v)∧A k (v::st) ρ H Q
 | .sto i=>hd1 st fun v st=>i < ρ.length∧A k st (ρ.set i (some v)) H Q
 | .attr f=>hd1 st fun v st=>∃ R,OpW W d (t1 fun o=>getAttr o (zaM f) true) [v] H R∧∀ x H',R x H'→A k (x::st) ρ H' Q
 | .sattr f=>hd1 st fun o st=>hd1 st fun v st=>∃ R:Hp→Prop,zbg W d (u2 fun v o=>setAttr o (zaM f) v) [v,o] H R∧∀ H',R H'→A k st ρ H' Q
 | .mth m=>hd1 st fun o st=>∃ f,zc9 W d (zbv m) o H f∧A k (o::.raw f::st) ρ H Q
 | .call n=>∃ st₀ R,(∀ x H',R x H'→A k (x::st₀) ρ H' Q)∧∃ f l,l.length=n∧st=l.reverse++.raw f::st₀∧zb2 f=true∧zaI W d f l H R
 | .bin op=>hd1 st fun b st=>hd1 st fun a st=>∃ R,OpW W d (t2 (binaryOp op)) [a,b] H R∧∀ x H',R x H'→A k (x::st) ρ H' Q
 | .cmp op=>hd1 st fun b st=>hd1 st fun a st=>∃ R,OpW W d (t2 (compareOp op)) [a,b] H R∧∀ x H',R x H'→A k (x::st) ρ H' Q
 | .cmpk op=>hd1 st fun b st=>hd1 st fun a st=>∃ c,OpW W d (t2 (compareOp op)) [a,b] H (fun x H'=>x=.bool c∧H'=H)∧A k (.bool c::b::st) ρ H Q
 | .neg=>hd1 st fun v st=>∃ a,v=.int a∧A k (.int (-a)::st) ρ H Q
 | .notb=>hd1 st fun v st=>∃ b,v=.bool b∧A k (.bool (!b)::st) ρ H Q
 | .chk=>hd1 st fun v st=>∃ b,v=.bool b∧A k (.bool b::st) ρ H Q
 | .ite t e=>hd1 st fun v st=>∃ b:Bool,v=.bool b∧A ((if b then t else e)++k) st ρ H Q
 | .tup n=>∃ st₀,∃ l:List V,l.length=n∧n≤1000∧st=l.reverse++st₀∧A k (.tup l::st₀) ρ H Q
 | .lst n=>∃ st₀,∃ l:List V,l.length=n∧n≤1000∧st=l.reverse++st₀∧∀ a,H a=none→A k (.ref a::st₀) ρ (zab H a (.list l)) Q
 | .dct n=>(n=0∧∀ a,H a=none→A k (.ref a::st) ρ (zab H a (.dict [])) Q) ∨
   (n=4∧hd1 st fun y st=>hd1 st fun q' st=>hd1 st fun x st=>hd1 st fun p' st=>∃ p q,p'=.str p∧q'=.str q∧p≠q∧∀ a,H a=none→A k (.ref a::st) ρ (zab H a (.dict [(p,x),(q,y)])) Q)
 | .idx=>hd1 st fun b st=>hd1 st fun a st=>∃ R,OpW W d (t2 getItem) [a,b] H R∧zdp W H a∧∀ x H',R x H'→A k (x::st) ρ H' Q
 | .slc=>hd1 st fun c st=>hd1 st fun b st=>hd1 st fun a st=>∃ R,zdJ W d a b c H R∧zdp W H a∧∀ x H',R x H'→A k (x::st) ρ H' Q
 | .sidx=>hd1 st fun i st=>hd1 st fun o st=>hd1 st fun v st=>∃ R:Hp→Prop,zbg W d (u3 fun v o i=>setItem o i v) [v,o,i] H R∧∀ H',R H'→A k st ρ H' Q
 | .pop=>hd1 st fun _ st=>A k st ρ H Q
 | .ret=>hd1 st fun v _=>Q (.ret v H)
 | .unp n=>hd1 st fun v st=>∃ l,v=.tup l∧l.length=n∧A k (l++st) ρ H Q
 | .fr kd n t b=>∃ S:zcB,(∀ c st ρ H Q,S c st ρ H Q→A c st ρ H Q)∧∃ st₀ l args,∃ (J:Nat→Ro→Hp→Prop) (Z:V→Hp→Prop),args.length=n∧st=args.reverse++st₀∧J 0 ρ H∧(∀ i ρ H,i≤l.length→J i ρ H→Src H kd args l) ∧
   (∀ i x ρ H,l[i]?=some x→J i ρ H→S (t++b) [x] ρ H (fun o=>match o with | .nxt [] ρ' H'=>J (i+1) ρ' H' | .ret v H'=>Z v H' | _=>False)) ∧
   (∀ ρ H,J l.length ρ H→S k st₀ ρ H Q)∧∀ v H,Z v H→Q (.ret v H)
 | .whl t b=>∃ S:zcB,(∀ c st ρ H Q,S c st ρ H Q→A c st ρ H Q)∧∃ (J:Nat→Ro→Hp→Prop) (B:Nat→Ro→Hp→Prop) (N:Ro→Hp→Prop) (Z:V→Hp→Prop) (n:Nat),J n ρ H ∧
   (∀ n ρ H,J n ρ H→S t [] ρ H (fun o=>match o with | .nxt [.bool true] ρ' H'=>ρ'=ρ∧B n ρ' H' | .nxt [.bool false] ρ' H'=>ρ'=ρ∧N ρ' H' | _=>False)) ∧
   (∀ n ρ H,B n ρ H→S b [] ρ H (fun o=>match o with | .nxt [] ρ' H'=>∃ m,m < n∧J m ρ' H' | .ret v H'=>Z v H' | _=>False)) ∧
   (∀ ρ H,N ρ H→S k st ρ H Q)∧∀ v H,Z v H→Q (.ret v H)
 | .lc kd n vs t e=>∃ S:zcB,(∀ c st ρ H Q,S c st ρ H Q→A c st ρ H Q)∧∃ st₀ l args,∃ (J:Nat→List V→Hp→Prop),args.length=n∧st=args.reverse++st₀∧J 0 [] H∧(∀ i acc H,i≤l.length→J i acc H→Src H kd args l)∧l.length≤1000 ∧
   (∀ i x acc H,l[i]?=some x→acc.length=i→J i acc H→S (t++e) [x] (vs.map fun j=>j.bind fun j=>(ρ[j]?).join) H (fun o=>match o with | .nxt [y] _ H'=>J (i+1) (acc++[y]) H' | _=>False)) ∧
   ∀ acc H,acc.length=l.length→J l.length acc H→∀ a,H a=none→S k (.ref a::st₀) ρ (zab H a (.list acc)) Q
 | .bad=>False
inductive Run (W:Wx) (d:Nat):zcB where
 | nil {st ρ H Q}:Q (.nxt st ρ H)→Run W d [] st ρ H Q
 | mk {i k st ρ H Q} (A:zcB) (hA:∀ c st ρ H Q,A c st ρ H Q→Run W d c st ρ H Q) (h:zcz A W d i k st ρ H Q):Run W d (i::k) st ρ H Q
theorem zcz.mono {A B:zcB} (u:∀ {c st ρ H Q},A c st ρ H Q→B c st ρ H Q) {W:Wx} {d:Nat} {i:I} {k:List I} {st:List V} {ρ:Ro} {H:Hp} {Q:Out→Prop}:zcz A W d i k st ρ H Q→zcz B W d i k st ρ H Q:=by
 have z1:∀ {R:V→Hp→Prop} {st},(∀ x H',R x H'→A k (x::st) ρ H' Q)→∀ x H',R x H'→B k (x::st) ρ H' Q:=fun h x H' r=>u (h x H' r)
 have z2:∀ {R:Hp→Prop} {st},(∀ H',R H'→A k st ρ H' Q)→∀ H',R H'→B k st ρ H' Q:=fun h H' r=>u (h H' r)
 have z3:∀ {m st},(∀ a,H a=none→A k (.ref a::st) ρ (zab H a m) Q)→∀ a,H a=none→B k (.ref a::st) ρ (zab H a m) Q:=fun h a r=>u (h a r)
 induction i using I.casesOn with
 | lit v=>exact u
 | loc i=>exact fun h=>h.elim fun x h=>⟨x,h.1,u h.2⟩
 | sto i=>exact hd1.mono fun _ _ h=>⟨h.1,u h.2⟩
 | attr f=>exact hd1.mono fun _ _ h=>h.elim fun R h=>⟨R,h.1,z1 h.2⟩
 | sattr f=>exact hd1.mono fun _ _=>hd1.mono fun _ _ h=>h.elim fun R h=>⟨R,h.1,z2 h.2⟩
 | mth m=>exact hd1.mono fun _ _ h=>h.elim fun f h=>⟨f,h.1,u h.2⟩
 | call n=>exact fun h=>h.elim fun s h=>h.elim fun R h=>⟨s,R,z1 h.1,h.2⟩
 | bin op=>exact hd1.mono fun _ _=>hd1.mono fun _ _ h=>h.elim fun R h=>⟨R,h.1,z1 h.2⟩
 | cmp op=>exact hd1.mono fun _ _=>hd1.mono fun _ _ h=>h.elim fun R h=>⟨R,h.1,z1 h.2⟩
 | cmpk op=>exact hd1.mono fun _ _=>hd1.mono fun _ _ h=>h.elim fun c h=>⟨c,h.1,u h.2⟩
 | neg=>exact hd1.mono fun _ _ h=>h.elim fun c h=>⟨c,h.1,u h.2⟩
 | notb=>exact hd1.mono fun _ _ h=>h.elim fun c h=>⟨c,h.1,u h.2⟩
 | chk=>exact hd1.mono fun _ _ h=>h.elim fun c h=>⟨c,h.1,u h.2⟩
 | ite t e=>exact hd1.mono fun _ _ h=>h.elim fun c h=>⟨c,h.1,u h.2⟩
 | tup n=>exact fun h=>h.elim fun s h=>h.elim fun l h=>⟨s,l,h.1,h.2.1,h.2.2.1,u h.2.2.2⟩
 | lst n=>exact fun h=>h.elim fun s h=>h.elim fun l h=>⟨s,l,h.1,h.2.1,h.2.2.1,z3 h.2.2.2⟩
 | dct n=>exact fun h=>h.elim (fun h=>.inl ⟨h.1,z3 h.2⟩) fun h=>.inr ⟨h.1,hd1.mono (fun _ _=>hd1.mono fun _ _=>hd1.mono fun _ _=>hd1.mono fun _ _ h=>h.elim fun p h=>h.elim fun q h=>⟨p,q,h.1,h.2.1,h.2.2.1,z3 h.2.2.2⟩) h.2⟩
 | idx=>exact hd1.mono fun _ _=>hd1.mono fun _ _ h=>h.elim fun R h=>⟨R,h.1,h.2.1,z1 h.2.2⟩
 | sidx=>exact hd1.mono fun _ _=>hd1.mono fun _ _=>hd1.mono fun _ _ h=>h.elim fun R h=>⟨R,h.1,z2 h.2⟩
 | slc=>exact hd1.mono fun _ _=>hd1.mono fun _ _=>hd1.mono fun _ _ h=>h.elim fun R h=>⟨R,h.1,h.2.1,z1 h.2.2⟩
 | pop=>exact hd1.mono fun _ _=>u
 | ret=>exact id
 | unp n=>exact hd1.mono fun _ _ h=>h.elim fun l h=>⟨l,h.1,h.2.1,u h.2.2⟩
 | fr kd n t b=>exact fun h=>h.elim fun S h=>⟨S,fun _ _ _ _ _ q=>u (h.1 _ _ _ _ _ q),h.2⟩
 | whl t b=>exact fun h=>h.elim fun S h=>⟨S,fun _ _ _ _ _ q=>u (h.1 _ _ _ _ _ q),h.2⟩
 | lc kd n vs t e=>exact fun h=>h.elim fun S h=>⟨S,fun _ _ _ _ _ q=>u (h.1 _ _ _ _ _ q),h.2⟩
 | has vs=>exact fun h=>⟨h.1,u h.2⟩
 | bad=>exact id
section
variable {W:Wx} {d:Nat}
theorem Run.of {i k st ρ H Q} (h:zcz (Run W d) W d i k st ρ H Q):Run W d (i::k) st ρ H Q:=.mk (Run W d) (fun _ _ _ _ _ h=>h) h
theorem Run.has {k st ρ H Q vs} (h1:(∀ j,some j ∈ vs→∃ y,ρ[j]?=some (some y))) (h2:Run W d k st ρ H Q):Run W d (.has vs::k) st ρ H Q:=.of ⟨h1,h2⟩
theorem Run.lit {k st ρ H Q v} (h1:Run W d k (v::st) ρ H Q):Run W d (.lit v::k) st ρ H Q:=.of h1
theorem Run.loc {k st ρ H Q i v} (h1:ρ[i]?=some (some v)) (h2:Run W d k (v::st) ρ H Q):Run W d (.loc i::k) st ρ H Q:=.of ⟨_,h1,h2⟩
theorem Run.sto {k st ρ H Q i v} (h1:i < ρ.length) (h2:Run W d k st (ρ.set i (some v)) H Q):Run W d (.sto i::k) (v::st) ρ H Q:=.of ⟨h1,h2⟩
theorem Run.attr {k st ρ H Q f v R} (h1:OpW W d (t1 fun o=>getAttr o (zaM f) true) [v] H R) (h2:(∀ x H',R x H'→Run W d k (x::st) ρ H' Q)):Run W d (.attr f::k) (v::st) ρ H Q:=.of ⟨_,h1,h2⟩
theorem Run.sattr {k st ρ H Q f v o} {R:Hp→Prop} (h1:zbg W d (u2 fun v o=>setAttr o (zaM f) v) [v,o] H R) (h2:∀ H',R H'→Run W d k st ρ H' Q):Run W d (.sattr f::k) (o::v::st) ρ H Q:=.of ⟨_,h1,h2⟩
theorem Run.mth {k st ρ H Q m o f} (h1:zc9 W d (zbv m) o H f) (h2:Run W d k (o::.raw f::st) ρ H Q):Run W d (.mth m::k) (o::st) ρ H Q:=.of ⟨_,h1,h2⟩
theorem Run.call {k st st' ρ H Q n f l R} (h1:l.length=n) (h2:st'=l.reverse++.raw f::st) (h3:zb2 f=true) (h4:zaI W d f l H R) (h5:(∀ x H',R x H'→Run W d k (x::st) ρ H' Q)):Run W d (.call n::k) st' ρ H Q:=.of ⟨_,_,h5,_,_,h1,h2,h3,h4⟩
theorem Run.bin {k st ρ H Q op a b R} (h1:OpW W d (t2 (binaryOp op)) [a,b] H R) (h2:(∀ x H',R x H'→Run W d k (x::st) ρ H' Q)):Run W d (.bin op::k) (b::a::st) ρ H Q:=.of ⟨_,h1,h2⟩
theorem Run.cmp {k st ρ H Q op a b R} (h1:OpW W d (t2 (compareOp op)) [a,b] H R) (h2:(∀ x H',R x H'→Run W d k (x::st) ρ H' Q)):Run W d (.cmp op::k) (b::a::st) ρ H Q:=.of ⟨_,h1,h2⟩
theorem Run.cmpk {k st ρ H Q op a b} {c:Bool} (h1:OpW W d (t2 (compareOp op)) [a,b] H (fun x H'=>x=.bool c∧H'=H)) (h2:Run W d k (.bool c::b::st) ρ H Q):Run W d (.cmpk op::k) (b::a::st) ρ H Q:=.of ⟨_,h1,h2⟩
theorem Run.neg {k st ρ H Q a} (h1:Run W d k (.int (-a)::st) ρ H Q):Run W d (.neg::k) (.int a::st) ρ H Q:=.of ⟨_,rfl,h1⟩
theorem Run.notb {k st ρ H Q b} (h1:Run W d k (.bool (!b)::st) ρ H Q):Run W d (.notb::k) (.bool b::st) ρ H Q:=.of ⟨_,rfl,h1⟩
theorem Run.chk {k st ρ H Q b} (h1:Run W d k (.bool b::st) ρ H Q):Run W d (.chk::k) (.bool b::st) ρ H Q:=.of ⟨_,rfl,h1⟩
theorem Run.ite {k st ρ H Q t e} {b:Bool} (h1:Run W d ((if b then t else e)++k) st ρ H Q):Run W d (.ite t e::k) (.bool b::st) ρ H Q:=.of ⟨_,rfl,h1⟩
theorem Run.tup {k st st' ρ H Q n} {l:List V} (h1:l.length=n) (h2:n≤1000) (h3:st'=l.reverse++st) (h4:Run W d k (.tup l::st) ρ H Q):Run W d (.tup n::k) st' ρ H Q:=.of ⟨_,_,h1,h2,h3,h4⟩
theorem Run.lst {k st st' ρ H Q n} {l:List V} (h1:l.length=n) (h2:n≤1000) (h3:st'=l.reverse++st) (h4:(∀ a,H a=none→Run W d k (.ref a::st) ρ (zab H a (.list l)) Q)):Run W d (.lst n::k) st' ρ H Q:=.of ⟨_,_,h1,h2,h3,h4⟩
theorem Run.dct0 {k st ρ H Q} (h1:(∀ a,H a=none→Run W d k (.ref a::st) ρ (zab H a (.dict [])) Q)):Run W d (.dct 0::k) st ρ H Q:=.of (Or.inl ⟨rfl,h1⟩)
theorem Run.dct2 {k st ρ H Q p q x y} (h1:p≠q) (h2:(∀ a,H a=none→Run W d k (.ref a::st) ρ (zab H a (.dict [(p,x),(q,y)])) Q)):Run W d (.dct 4::k) (y::.str q::x::.str p::st) ρ H Q:=.of (Or.inr ⟨rfl,_,_,rfl,rfl,h1,h2⟩)
theorem Run.idx {k st ρ H Q a b R} (h1:OpW W d (t2 getItem) [a,b] H R) (h2:zdp W H a) (h3:(∀ x H',R x H'→Run W d k (x::st) ρ H' Q)):Run W d (.idx::k) (b::a::st) ρ H Q:=.of ⟨_,h1,h2,h3⟩
theorem Run.slc {k st ρ H Q a b c R} (h1:zdJ W d a b c H R) (h2:zdp W H a) (h3:(∀ x H',R x H'→Run W d k (x::st) ρ H' Q)):Run W d (.slc::k) (c::b::a::st) ρ H Q:=.of ⟨_,h1,h2,h3⟩
theorem Run.sidx {k st ρ H Q v o i} {R:Hp→Prop} (h1:zbg W d (u3 fun v o i=>setItem o i v) [v,o,i] H R) (h2:∀ H',R H'→Run W d k st ρ H' Q):Run W d (.sidx::k) (i::o::v::st) ρ H Q:=.of ⟨_,h1,h2⟩
theorem Run.pop {k st ρ H Q v} (h1:Run W d k st ρ H Q):Run W d (.pop::k) (v::st) ρ H Q:=.of h1
theorem Run.ret {k st ρ H Q v} (h1:Q (.ret v H)):Run W d (.ret::k) (v::st) ρ H Q:=.of h1
theorem Run.unp {k st ρ H Q n l} (h1:l.length=n) (h2:Run W d k (l++st) ρ H Q):Run W d (.unp n::k) (.tup l::st) ρ H Q:=.of ⟨_,rfl,h1,h2⟩
theorem Run.fr {k st st' ρ H Q kd n t b l args} (J:Nat→Ro→Hp→Prop) (Z:V→Hp→Prop) (h1:args.length=n) (h2:st'=args.reverse++st) (h3:J 0 ρ H) (h4:∀ i ρ H,i≤l.length→J i ρ H→Src H kd args l) (h5:(∀ i x ρ H,l[i]?=some x→J i ρ H→Run W d (t++b) [x] ρ H (fun o=>match o with | .nxt [] ρ' H'=>J (i+1) ρ' H' | .ret v H'=>Z v H' | _=>False))) (h6:∀ ρ H,J l.length ρ H→Run W d k st ρ H Q) (h7:(∀ v H,Z v H→Q (.ret v H))):Run W d (.fr kd n t b::k) st' ρ H Q:=.of ⟨Run W d,fun _ _ _ _ _ h=>h,_,_,_,J,Z,h1,h2,h3,h4,h5,h6,h7⟩
theorem Run.whl {k st ρ H Q t b} (J:Nat→Ro→Hp→Prop) (B:Nat→Ro→Hp→Prop) (N:Ro→Hp→Prop) (Z:V→Hp→Prop) (n:Nat) (h1:J n ρ H) (h2:(∀ n ρ H,J n ρ H→Run W d t [] ρ H (fun o=>match o with | .nxt [.bool true] ρ' H'=>ρ'=ρ∧B n ρ' H' | .nxt [.bool false] ρ' H'=>ρ'=ρ∧N ρ' H' | _=>False))) (h3:(∀ n ρ H,B n ρ H→Run W d b [] ρ H (fun o=>match o with | .nxt [] ρ' H'=>∃ m,m < n∧J m ρ' H' | .ret v H'=>Z v H' | _=>False))) (h4:∀ ρ H,N ρ H→Run W d k st ρ H Q) (h5:(∀ v H,Z v H→Q (.ret v H))):Run W d (.whl t b::k) st ρ H Q:=.of ⟨Run W d,fun _ _ _ _ _ h=>h,J,B,N,Z,n,h1,h2,h3,h4,h5⟩
theorem Run.lc {k st st' ρ H Q kd n vs t e l args} (J:Nat→List V→Hp→Prop) (h1:args.length=n) (h2:st'=args.reverse++st) (h3:J 0 [] H) (h4:∀ i acc H,i≤l.length→J i acc H→Src H kd args l) (h5:l.length≤1000) (h6:(∀ i x acc H,l[i]?=some x→acc.length=i→J i acc H→Run W d (t++e) [x] (vs.map fun j=>j.bind fun j=>(ρ[j]?).join) H (fun o=>match o with | .nxt [y] _ H'=>J (i+1) (acc++[y]) H' | _=>False))) (h7:(∀ acc H,acc.length=l.length→J l.length acc H→∀ a,H a=none→Run W d k (.ref a::st) ρ (zab H a (.list acc)) Q)):Run W d (.lc kd n vs t e::k) st' ρ H Q:=.of ⟨Run W d,fun _ _ _ _ _ h=>h,_,_,_,J,h1,h2,h3,h4,h5,h6,h7⟩
end
noncomputable def Run0 (W:Wx) (d:Nat) (c:List I) (st:List V) (ρ:Ro) (H:Hp) (Q:Out→Prop):Prop:=match c with | []=>Q (.nxt st ρ H) | i::k=>zcz (Run W d) W d i k st ρ H Q
theorem Run.inv0 {W:Wx} {d:Nat} {c:List I} {st:List V} {ρ:Ro} {H:Hp} {Q:Out→Prop} (h:Run W d c st ρ H Q):Run0 W d c st ρ H Q:=
 Run.casesOn (motive:=fun c st ρ H Q _=>Run0 W d c st ρ H Q) h (fun h=>h) fun _ hA h=>h.mono (hA _ _ _ _ _)
theorem Run.iNil {W:Wx} {d:Nat} {st:List V} {ρ:Ro} {H:Hp} {Q:Out→Prop} (h:Run W d [] st ρ H Q):Q (.nxt st ρ H):=h.inv0
theorem Run.inv {W:Wx} {d:Nat} {i:I} {k:List I} {st:List V} {ρ:Ro} {H:Hp} {Q:Out→Prop} (h:Run W d (i::k) st ρ H Q):zcz (Run W d) W d i k st ρ H Q:=h.inv0
theorem Run.off {W:Wx} {d:Nat} {k:List I} {st:List V} {ρ:Ro} {H:Hp} {Q:Out→Prop} {P:Prop} (h:Run W d (.bad::k) st ρ H Q):P:=h.inv.elim
section
variable {W:Wx} {d:Nat} {k:List I} {st:List V} {ρ:Ro} {H:Hp} {Q:Out→Prop} {v:V} {b:Bool}
theorem Run.iLit (h:Run W d (.lit v::k) st ρ H Q):Run W d k (v::st) ρ H Q:=h.inv
theorem Run.iPop (h:Run W d (.pop::k) (v::st) ρ H Q):Run W d k st ρ H Q:=h.inv
theorem Run.iRet (h:Run W d (.ret::k) (v::st) ρ H Q):Q (.ret v H):=h.inv
theorem Run.iD0 (h:Run W d (.dct 0::k) st ρ H Q):∀ a,H a=none→Run W d k (.ref a::st) ρ (zab H a (.dict [])) Q:=
 h.inv.elim (fun h=>h.2) fun h=>absurd h.1 (by decide)
theorem Run.iD4 {x y:V} {p q:Str} (h:Run W d (.dct 4::k) (y::.str q::x::.str p::st) ρ H Q):p≠q∧∀ a,H a=none→Run W d k (.ref a::st) ρ (zab H a (.dict [(p,x),(q,y)])) Q:=
 h.inv.elim (fun h=>absurd h.1 (by decide)) fun h=>h.2.elim fun p' h=>h.elim fun q' h=>by rw [V.str.inj h.1,V.str.inj h.2.1]; exact h.2.2
theorem Run.iChk (h:Run W d (.chk::k) (.bool b::st) ρ H Q):Run W d k (.bool b::st) ρ H Q:=h.inv.elim fun _ h=>V.bool.inj h.1 ▸ h.2
theorem Run.iNot (h:Run W d (.notb::k) (.bool b::st) ρ H Q):Run W d k (.bool (!b)::st) ρ H Q:=h.inv.elim fun _ h=>V.bool.inj h.1 ▸ h.2
theorem Run.iIte {t e:List I} (h:Run W d (.ite t e::k) (.bool b::st) ρ H Q):Run W d ((if b then t else e)++k) st ρ H Q:=h.inv.elim fun _ h=>V.bool.inj h.1 ▸ h.2
end
section
variable {W:Wx} {d:Nat} {H:Hp} {R:V→Hp→Prop}
theorem zm6 {a b:Int} (h:R (.int (a+b)) H):OpW W d (t2 (binaryOp .Add)) [.int a,.int b] H R:=
 OpW.two fun A s K X x y hA hS rx ry=>by
  obtain ⟨t,rfl⟩:=Rep.int_iff.mp rx
  obtain ⟨u,rfl⟩:=Rep.int_iff.mp ry
  exact wpAny_add_int (zax hS (Rep.int_iff.mpr ⟨_,rfl⟩) h)
theorem znx {a b:Int} (h:R (.int (a - b)) H):OpW W d (t2 (binaryOp .Sub)) [.int a,.int b] H R:=
 OpW.two fun A s K X x y hA hS rx ry=>by
  obtain ⟨t,rfl⟩:=Rep.int_iff.mp rx
  obtain ⟨u,rfl⟩:=Rep.int_iff.mp ry
  exact PyProof.Rows.sub_int (zax hS (Rep.int_iff.mpr ⟨_,rfl⟩) h)
theorem znp {a b:Int} (hm:IntMulOk a b) (h:R (.int (a * b)) H):OpW W d (t2 (binaryOp .Mult)) [.int a,.int b] H R:=
 OpW.two fun A s K X x y hA hS rx ry=>by
  obtain ⟨t,rfl⟩:=Rep.int_iff.mp rx
  obtain ⟨u,rfl⟩:=Rep.int_iff.mp ry
  exact PyProof.Rows.mul_int (zax hS (Rep.int_iff.mpr ⟨_,rfl⟩) h) hm
theorem zno {a b:Int} (hb:b≠0) (h:R (.int (a.fmod b)) H):OpW W d (t2 (binaryOp .Mod)) [.int a,.int b] H R:=
 OpW.two fun A s K X x y hA hS rx ry=>by
  obtain ⟨t,rfl⟩:=Rep.int_iff.mp rx
  obtain ⟨u,rfl⟩:=Rep.int_iff.mp ry
  exact PyProof.Rows.mod_int hb (zax hS (Rep.int_iff.mpr ⟨_,rfl⟩) h)
theorem zng {a b:Int} (hb:b≠0) (hp:Builtin.divisionGoesByPylong a b=false) (h:R (.int (a.fdiv b)) H):OpW W d (t2 (binaryOp .FloorDiv)) [.int a,.int b] H R:=
 OpW.two fun A s K X x y hA hS rx ry=>by
  obtain ⟨t,rfl⟩:=Rep.int_iff.mp rx
  obtain ⟨u,rfl⟩:=Rep.int_iff.mp ry
  exact PyProof.Rows.floordiv_int hb (zax hS (Rep.int_iff.mpr ⟨_,rfl⟩) h) (.inl hp)
theorem zit {a b:Int} (h:R (.bool (decide (a < b))) H):OpW W d (t2 (compareOp .Lt)) [.int a,.int b] H R:=
 OpW.two fun A s K X x y hA hS rx ry=>by
  obtain ⟨t,rfl⟩:=Rep.int_iff.mp rx
  obtain ⟨u,rfl⟩:=Rep.int_iff.mp ry
  exact wpAny_lt_int (zax hS (Rep.bool_iff.mpr rfl) h)
theorem zis {a b:Int} (h:R (.bool (decide (a≤b))) H):OpW W d (t2 (compareOp .LtE)) [.int a,.int b] H R:=
 OpW.two fun A s K X x y hA hS rx ry=>by
  obtain ⟨t,rfl⟩:=Rep.int_iff.mp rx
  obtain ⟨u,rfl⟩:=Rep.int_iff.mp ry
  exact PyProof.Rows.le_int (zax hS (Rep.bool_iff.mpr rfl) h)
theorem zni {a b:Int} (h:R (.bool (decide (b < a))) H):OpW W d (t2 (compareOp .Gt)) [.int a,.int b] H R:=
 OpW.two fun A s K X x y hA hS rx ry=>by
  obtain ⟨t,rfl⟩:=Rep.int_iff.mp rx
  obtain ⟨u,rfl⟩:=Rep.int_iff.mp ry
  exact PyProof.Rows.gt_int (zax hS (Rep.bool_iff.mpr rfl) h)
theorem znh {a b:Int} (h:R (.bool (decide (b≤a))) H):OpW W d (t2 (compareOp .GtE)) [.int a,.int b] H R:=
 OpW.two fun A s K X x y hA hS rx ry=>by
  obtain ⟨t,rfl⟩:=Rep.int_iff.mp rx
  obtain ⟨u,rfl⟩:=Rep.int_iff.mp ry
  exact PyProof.Rows.ge_int (zax hS (Rep.bool_iff.mpr rfl) h)
theorem znc {a b:Int} (h:R (.bool (a == b)) H):OpW W d (t2 (compareOp .Eq)) [.int a,.int b] H R:=
 OpW.two fun A s K X x y hA hS rx ry=>by
  obtain ⟨t,rfl⟩:=Rep.int_iff.mp rx
  obtain ⟨u,rfl⟩:=Rep.int_iff.mp ry
  exact PyProof.Rows.eq_int (zax hS (Rep.bool_iff.mpr rfl) h)
theorem znr {a b:Int} (h:R (.bool (a != b)) H):OpW W d (t2 (compareOp .NotEq)) [.int a,.int b] H R:=
 OpW.two fun A s K X x y hA hS rx ry=>by
  obtain ⟨t,rfl⟩:=Rep.int_iff.mp rx
  obtain ⟨u,rfl⟩:=Rep.int_iff.mp ry
  exact PyProof.Rows.ne_int (zax hS (Rep.bool_iff.mpr rfl) h)
theorem znf {a b:Str} (h:R (.bool (a == b)) H):OpW W d (t2 (compareOp .Eq)) [.str a,.str b] H R:=
 OpW.two fun A s K X x y hA hS rx ry=>by
  obtain ⟨t,rfl⟩:=Rep.str_iff.mp rx
  obtain ⟨u,rfl⟩:=Rep.str_iff.mp ry
  exact PyProof.Rows.eq_str (zax hS (Rep.bool_iff.mpr rfl) h)
theorem znu {a b:Str} (h:R (.bool (a != b)) H):OpW W d (t2 (compareOp .NotEq)) [.str a,.str b] H R:=
 OpW.two fun A s K X x y hA hS rx ry=>by
  obtain ⟨t,rfl⟩:=Rep.str_iff.mp rx
  obtain ⟨u,rfl⟩:=Rep.str_iff.mp ry
  exact PyProof.Rows.ne_str (zax hS (Rep.bool_iff.mpr rfl) h)
theorem zne {a b:Bool} (h:R (.bool (a == b)) H):OpW W d (t2 (compareOp .Eq)) [.bool a,.bool b] H R:=
 OpW.two fun A s K X x y hA hS rx ry=>by
  obtain rfl:=Rep.bool_iff.mp rx
  obtain rfl:=Rep.bool_iff.mp ry
  exact PyProof.Rows.eq_bool (zax hS (Rep.bool_iff.mpr rfl) h)
theorem znt {a b:Bool} (h:R (.bool (a != b)) H):OpW W d (t2 (compareOp .NotEq)) [.bool a,.bool b] H R:=
 OpW.two fun A s K X x y hA hS rx ry=>by
  obtain rfl:=Rep.bool_iff.mp rx
  obtain rfl:=Rep.bool_iff.mp ry
  exact PyProof.Rows.ne_bool (zax hS (Rep.bool_iff.mpr rfl) h)
noncomputable def V.isNone:V→Bool | .none=>true | .raw v=>v == .none | _=>false
theorem ziU {K:Fz} {x:V} {v:Value} (r:Rep K x v):(v == Value.none)=x.isNone:=by
 rcases x with _ | _ <;> simp only [V.isNone]
 case none=>rw [Rep.none_iff.mp r]; rfl
 case bool=>rw [Rep.bool_iff.mp r]; rfl
 case int=>obtain ⟨_,rfl⟩:=Rep.int_iff.mp r; rfl
 case str=>obtain ⟨_,rfl⟩:=Rep.str_iff.mp r; rfl
 case bytes=>obtain ⟨_,rfl⟩:=Rep.bytes_iff.mp r; rfl
 case tup=>obtain ⟨_,_,_,rfl,_⟩:=Rep.tup_iff.mp r; rfl
 case ref=>rw [Rep.ref_iff.mp r]; rfl
 case raw=>rw [Rep.raw_iff.mp r]
theorem znk {x:V} (h:R (.bool x.isNone) H):OpW W d (t2 (compareOp .Is)) [x,.none] H R:=
 OpW.two fun A s K X a b hA hS rx ry=>by
  obtain rfl:=Rep.none_iff.mp ry
  exact is_none (zax hS (Rep.bool_iff.mpr rfl) (by rw [ziU rx]; exact h))
theorem znl {x:V} (h:R (.bool (!x.isNone)) H):OpW W d (t2 (compareOp .IsNot)) [x,.none] H R:=
 OpW.two fun A s K X a b hA hS rx ry=>by
  obtain rfl:=Rep.none_iff.mp ry
  exact isNot_none (zax hS (Rep.bool_iff.mpr rfl) (by rw [ziU rx]; exact h))
theorem zix {K X:Fz} {s:Shared} {l:List V} {vs:List Value} {n t:Nat} (hS:W.Sat K X H s) (r:zaf K l vs) (h:R (.tup l) H) :
  zaY W K X R (.ref s.heap.objs.size) { s with heap:=s.heap.push (zbf vs.toArray n),toks:=t }:=by
 obtain ⟨S',le⟩:=Sat.freeze hS (zbf vs.toArray n) rfl (t:=t)
 exact ⟨_,.tup l,H,le,S',Rep.tup_iff.mpr ⟨_,n,vs.toArray,rfl,zai,r.le le⟩,h⟩
theorem zd9 {K X:Fz} {s:Shared} {l:List V} {vs:Array Value} {n t:Nat} (hS:W.Sat K X H s) (r:zaf K l vs.toList) (h:∀ a,H a=none→R (.ref a) (zab H a (.list l))) :
  zaY W K X R (.ref s.heap.objs.size) { s with heap:=s.heap.push (za3 vs n),toks:=t }:=
 ⟨K,.ref s.heap.objs.size,_,Le.rfl,Sat.alloc hS (za3 vs n) (.list l) (fun _ _ e=>nomatch e) (fun D=>⟨vs,n,Heap.get?_push_size _ rfl,r⟩),Rep.ref_iff.mpr rfl,h _ (Sat.fresh hS).2.2⟩
theorem Wx.Sat.list {K X:Fz} {s:Shared} {a:Addr} {l:List V} (hS:W.Sat K X H s) (e:H a=some (.list l)):∃ vs n,s.heap.get? a=some (za3 vs n)∧zaf K l vs.toList:=
 let ⟨_,O⟩:=hS.objs; O.at_ _ _ e
theorem za2 {h:Heap} {a:Addr} {vs:Array Value} {n:Nat} (e:h.get? a=some (za3 vs n)):h.IsList a vs:=⟨_,e,rfl,n,rfl⟩
theorem zdX {h:Heap} {a:Addr} {vs:Array Value} {n:Nat} (e:h.get? a=some (zbf vs n)):IsTup h a vs:=⟨_,e,rfl,n,rfl⟩
theorem zaX {K:Fz} {l:List V} {vs:Array Value} (r:zaf K l vs.toList):vs.size=l.length:=by rw [← r.length]; simp
noncomputable def at? (l:List V) (i:Int):Option V:=if i < 0 then (if -(l.length:Int)≤i then l[(i+l.length).toNat]? else none) else l[i.toNat]?
theorem znm {a:Addr} {l:List V} {i:Int} {x:V} (e:H a=some (.list l)) (hi:-1000≤i∧i≤1000) (hx:at? l i=some x) (h:R x H):OpW W d (t2 getItem) [.ref a,.int i] H R:=
 OpW.two fun A s K X p q hA hS rx ry=>by
  obtain rfl:=Rep.ref_iff.mp rx
  obtain ⟨u,rfl⟩:=Rep.int_iff.mp ry
  obtain ⟨vs,n,e1,r⟩:=hS.list e
  have hs:=zaX r
  unfold at? at hx
  split at hx
  ·split at hx
   ·obtain ⟨v,hv,rv⟩:=r.get _ hx
    refine wpAny_getItem_list_neg (za2 e1) (by lia) (by rw [hs]; lia) (by lia) (x:=v) ?_ (zax hS rv h)
    rw [hs]; simpa using hv
   ·injection hx
  ·obtain ⟨v,hv,rv⟩:=r.get _ hx
   exact wpAny_getItem_list (za2 e1) (by lia) (by lia) (x:=v) (by simpa using hv) (zax hS rv h)
theorem znn {l:List V} {i:Int} {x:V} (hi:-1000≤i∧i≤1000) (hx:at? l i=some x) (h:R x H):OpW W d (t2 getItem) [.tup l,.int i] H R:=
 OpW.two fun A s K X p q hA hS rx ry=>by
  obtain ⟨a,n,vs,rfl,e1,r⟩:=Rep.tup_iff.mp rx
  obtain ⟨u,rfl⟩:=Rep.int_iff.mp ry
  have hs:=zaX r
  unfold at? at hx
  split at hx
  ·split at hx
   ·obtain ⟨v,hv,rv⟩:=r.get _ hx
    refine PyProof.Rows.getItem_tuple (zdX (hS.keep _ _ e1)) (by lia) (by lia) (j:=(i+l.length).toNat) (x:=v) ?_ (by simpa using hv) (zax hS rv h)
    rename_i h1 h2
    have:=(List.getElem?_eq_some_iff.mp hx).1
    unfold seqIndex?
    simp only [h1,if_true,hs]
    rw [if_pos]
    simp only [Bool.and_eq_true,decide_eq_true_eq]; lia
   ·injection hx
  ·obtain ⟨v,hv,rv⟩:=r.get _ hx
   refine PyProof.Rows.getItem_tuple (zdX (hS.keep _ _ e1)) (by lia) (by lia) (j:=i.toNat) (x:=v) ?_ (by simpa using hv) (zax hS rv h)
   rename_i h1
   have:=(List.getElem?_eq_some_iff.mp hx).1
   unfold seqIndex?
   simp only [h1,if_false,hs]
   rw [if_pos]
   simp only [Bool.and_eq_true,decide_eq_true_eq]; lia
end
noncomputable def fAll:List Nat:=List.range 42
noncomputable def zkb (P:Params):Bool:=zdg.all fun C =>
 (findIn (KF P) (.ref C) "__getattribute__" == some (some (.builtin "object.__getattribute__"))) && (findIn (KF P) (.ref C) "__getattr__" == some none) && hasDictIn (KF P) C &&
 (findIn (KF P) (.ref C) "__setattr__" == some (some (.builtin "object.__setattr__"))) && plainOver (KF P) C && makesIn (KF P) C &&
 (zdV C).all fun f=>(findIn (KF P) (.ref C) (zaM f) == some none) && Nat.blt f 42
theorem zkc (P:Params):zkb P=true:=by kernel_rfl
theorem zkT:fAll.all (fun i=>fAll.all fun j=>(zaM i == zaM j) == (i == j))=true:=by kernel_rfl
theorem ziq {C f:Nat} (h:okF C f=true):C ∈ zdg:=by
 unfold okF zdV at h
 rcases q:ze4.lookup C with _ | l <;> rw [q] at h
 ·injection h
 ·exact List.mem_map.mpr ⟨_,zcJ q,rfl⟩
structure ClsF (P:Params) (C:Nat):Prop where
 ga:findIn (KF P) (.ref C) "__getattribute__"=some (some (.builtin "object.__getattribute__"))
 gt:findIn (KF P) (.ref C) "__getattr__"=some none
 hd:hasDictIn (KF P) C=true
 sa:findIn (KF P) (.ref C) "__setattr__"=some (some (.builtin "object.__setattr__"))
 po:plainOver (KF P) C=true
 mkI:makesIn (KF P) C=true
 fl:∀ f,okF C f=true→findIn (KF P) (.ref C) (zaM f)=some none∧f < 42
theorem zdN (P:Params) {C:Nat} (h:C ∈ zdg):ClsF P C:=by
 have:=List.all_eq_true.mp (zkc P) C h
 simp only [Bool.and_eq_true,beq_iff_eq,List.all_eq_true] at this
 obtain ⟨⟨⟨⟨⟨⟨a1,a2⟩,a3⟩,a4⟩,a5⟩,a6⟩,a7⟩:=this
 refine ⟨a1,a2,a3,a4,a5,a6,fun f hf=>?_⟩
 have:=a7 f (by unfold okF at hf; exact List.contains_iff_mem.mp hf)
 exact ⟨this.1,by have:=this.2; unfold Nat.blt at this; exact Nat.le_of_ble_eq_true this⟩
theorem zm1 {i j:Nat} (hi:i < 42) (hj:j < 42):(zaM i == zaM j)=(i == j):=by
 have:=List.all_eq_true.mp (List.all_eq_true.mp zkT i (List.mem_range.mpr hi)) j (List.mem_range.mpr hj)
 exact beq_iff_eq.mp this
noncomputable def zcu (f:Nat):List (Nat × V)→Option V
 | []=>none
 | p::r=>if p.1=f then some p.2 else zcu f r
noncomputable def zaF (f:Nat) (x:V):List (Nat × V)→List (Nat × V)
 | []=>[(f,x)]
 | p::r=>if p.1=f then (f,x)::r else p::zaF f x r
theorem zh1 {k:Value} {i f:Nat} (hk:∃ t,k=.str (zaM i) t) (hi:i < 42) (hf:f < 42):k.isStr (zaM f)=(i == f):=hk.elim fun _ q=>q ▸ zm1 hi hf
theorem zkO {P:Params} {K:Fz} {f:Nat} (hf:f < 42) {fs:List (Nat × V)}:∀ {es:List DictEntry},zbh P K es fs→(∀ p ∈ fs,p.1 < 42)→∀ {x},zcu f fs=some x→∃ e,es.find? (fun e=>e.key.isStr (zaM f))=some e∧Rep K x e.val:=by
 induction fs with
 | nil=>intro _ _ _ _ q; injection q
 | cons p fs ih =>
  intro es h hl x q
  obtain ⟨e,r,rfl,hk,_,hr,h⟩:=h
  unfold zcu at q
  rw [List.find?_cons,zh1 hk (hl _ (.head _)) hf]
  by_cases z:p.1=f
  ·rw [if_pos z] at q; rw [beq_iff_eq.mpr z]; exact ⟨_,rfl,Option.some.inj q ▸ hr⟩
  ·rw [if_neg z] at q; rw [beq_eq_false_iff_ne.mpr z]
   exact ih h (fun p hp=>hl p (.tail _ hp)) q
theorem zkP {P:Params} {K:Fz} {f:Nat} (hf:f < 42) {fs:List (Nat × V)} {es:List DictEntry} (h:zbh P K es fs) (hl:∀ p ∈ fs,p.1 < 42) {x} (q:zcu f fs=some x):∃ v,getL (zaM f) es=some (some v)∧Rep K x v:=by
 obtain ⟨e,h1,h2⟩:=zkO hf h hl q
 exact ⟨e.val,by unfold getL; rw [h1],h2⟩
theorem zkR {P:Params} {K:Fz} {f:Nat} {x:V} {v:Value} (hf:f < 42) (hx:Rep K x v) (t:Tok) {fs:List (Nat × V)}:∀ {es:List DictEntry},zbh P K es fs→(∀ p ∈ fs,p.1 < 42) →
  zbh P K (putL (zaM f) (PyData.keyHash P (zaM f)) (.str (zaM f) t) v es) (zaF f x fs):=by
 induction fs with
 | nil=>intro es h _; rw [show es=[] from h]; exact ⟨_,_,rfl,⟨t,rfl⟩,rfl,hx,rfl⟩
 | cons p fs ih =>
  intro es h hl
  obtain ⟨e,r,rfl,hk,hh,hr,h⟩:=h
  unfold putL zaF
  rw [zh1 hk (hl _ (.head _)) hf]
  by_cases z:p.1=f
  ·rw [if_pos z,if_pos (beq_iff_eq.mpr z),← z]
   exact ⟨_,_,rfl,hk,hh,hx,h⟩
  ·rw [if_neg z,if_neg (fun q=>z (beq_iff_eq.mp q))]
   exact ⟨_,_,rfl,hk,hh,hr,ih h fun p hp=>hl p (.tail _ hp)⟩
theorem zkQ {P:Params} {K:Fz} {fs:List (Nat × V)}:∀ {es:List DictEntry},zbh P K es fs→es.length=fs.length:=by
 induction fs with
 | nil=>intro es h; rw [show es=[] from h]; rfl
 | cons p fs ih=>intro es h; obtain ⟨e,r,rfl,_,_,_,h⟩:=h; exact congrArg (·+1) (ih h)
theorem zhL {P:Params} {K:Fz} {fs:List (Nat × V)}:∀ {es:List DictEntry},zbh P K es fs→es.any (·.refKey)=false:=by
 induction fs with
 | nil=>intro es h; rw [show es=[] from h]; rfl
 | cons p fs ih=>intro es h; obtain ⟨e,r,rfl,⟨t,hk⟩,_,_,h⟩:=h; rw [List.any_cons,ih h,DictEntry.refKey,hk]; rfl
theorem ziA {f:Nat} {x:V}:∀ fs:List (Nat × V),(zaF f x fs).length≤fs.length+1
 | []=>Nat.le_refl _
 | p::r=>by have:=ziA (f:=f) (x:=x) r; unfold zaF; split <;> simp only [List.length_cons] <;> lia
theorem ziB {f:Nat} {x:V}:∀ {fs:List (Nat × V)} {p:Nat × V},p ∈ zaF f x fs→p.1=f∨p ∈ fs
 | [],p,h=>by simp [zaF] at h; subst h; exact .inl rfl
 | q::fs,p,h=>by
  unfold zaF at h
  split at h
  ·rcases List.mem_cons.mp h with rfl | h
   ·exact .inl rfl
   ·exact .inr (.tail _ h)
  ·rcases List.mem_cons.mp h with rfl | h
   ·exact .inr (.head _)
   ·exact (ziB h).imp id (.tail _)
noncomputable def V.hand:V→Bool | .raw v=>handedIn v | _=>true
theorem zk1 {K:Fz} {x:V} {v:Value} (r:Rep K x v) (h:x.hand=true):handedIn v=true:=by
 induction x using V.casesOn
 case none=>rw [Rep.none_iff.mp r]; rfl
 case bool=>rw [Rep.bool_iff.mp r]; rfl
 case int=>obtain ⟨_,rfl⟩:=Rep.int_iff.mp r; rfl
 case str=>obtain ⟨_,rfl⟩:=Rep.str_iff.mp r; rfl
 case bytes=>obtain ⟨_,rfl⟩:=Rep.bytes_iff.mp r; rfl
 case tup=>obtain ⟨_,_,_,rfl,_⟩:=Rep.tup_iff.mp r; rfl
 case ref=>rw [Rep.ref_iff.mp r]; rfl
 case raw=>rw [Rep.raw_iff.mp r]; exact h
section
variable {W:Wx} {d:Nat} {H:Hp} {R:V→Hp→Prop}
theorem Wx.frag (W:Wx) {K X:Fz} {s:Shared} {H:Hp} (hS:W.Sat K X H s):(KF W.w.params).In s.heap:=W.says.1.keeps hS.stays
theorem zib {f:Nat} {x:V}:∀ {fs:List (Nat × V)},zcu f fs=some x→(f,x) ∈ fs
 | p::r,h=>by
  unfold zcu at h
  split at h
  ·rename_i q; (injection h with h; subst h); rw [← q]; exact .head _
  ·exact .tail _ (zib h)
theorem ze6 {h:Heap} {a C dx:Nat} {od:Obj} (h1:h.get? a=some (instObj C dx)) (h2:h.get? dx=some od):InstAt h a (instObj C dx) C (some od):=⟨h1,rfl,rfl,h2⟩
theorem zm9 {a C f:Nat} {fs:List (Nat × V)} {x:V} (e:H a=some (.inst C fs)) (hx:zcu f fs=some x) (hh:x.hand=true) (h:R x H):OpW W d (t1 fun o=>getAttr o (zaM f) true) [.ref a] H R:=
 OpW.one fun A s K X p hA hS rx=>by
  obtain rfl:=Rep.ref_iff.mp rx
  obtain ⟨D,O⟩:=hS.objs
  obtain ⟨h1,es,n,h2,h3,h4⟩:=O.at_ _ _ e
  have hf:=h4 _ (zib hx)
  have c:=zdN W.w.params (ziq hf)
  have lt:∀ p ∈ fs,p.1 < 42:=fun p hp=>(c.fl _ (h4 p hp)).2
  obtain ⟨v,hv,rv⟩:=zkP (c.fl _ hf).2 h3 lt hx
  refine get_value (W.frag hS) (ze6 h1 h2) c.ga (findObj_own c.hd (c.fl _ hf).1 rfl hv) (zk1 rv hh) (zax hS rv h)
theorem zqf {K:Frag} {C:Addr} {n:Str} (h:findIn K (.ref C) n=some none):takerIn K C n=some none:=by unfold takerIn; rw [h]; rfl
theorem zkH {a C f:Nat} {fs:List (Nat × V)} {x:V} {R:Hp→Prop} (e:H a=some (.inst C fs)) (hf:okF C f=true) (hl:fs.length≤100) (h:R (zab H a (.inst C (zaF f x fs)))) :
  zbg W d (u2 fun v o=>setAttr o (zaM f) v) [x,.ref a] H R:=
 zbg.two fun A s K X p q hA hS rx ry=>by
  obtain rfl:=Rep.ref_iff.mp ry
  obtain ⟨dx,es,n,h1,h2,h3,h4,k⟩:=Sat.updI hS e
  have c:=zdN W.w.params (ziq hf)
  have lt:∀ p ∈ fs,p.1 < 42:=fun p hp=>(c.fl _ (h4 p hp)).2
  have X:=W.frag hS
  have I:=ze6 h1 h2
  refine set_plain X I c.sa ?_
  have X':(KF W.w.params).In ({ s with toks:=s.toks+1 }:Shared).heap:=X
  refine osa_open (s:={ s with toks:=s.toks+1 }) X' I c.po (zqf (c.fl _ hf).1) fun b=>?_
  obtain ⟨cd,hc,hd'⟩:=any_some c.hd
  refine wpAny_bind (wpAny_pure (wpAny_bind (wpAny_bind (wpAny_loadPart h1 (wpAny_bind ((looks_clsIn X' hc).here ?_))))))
  rw [hd']
  refine wpAny_pure (a:=some dx) (wpAny_bind (wpAny_pure (wpAny_bind ?_)))
  unfold nsSet
  refine wpAny_bind (wpAny_bind (wpAny_askSetting (wpAny_pure (wpAny_bind (wpAny_mkText (wpAny_bind (wpAny_loadPart h2 ?_)))))))
  have cc:(!(es.toArray).any (·.key.isStr (zaM f)) && (es.toArray).any (·.refKey))=false:=by
   rw [← Array.any_toList,← Array.any_toList]
   show (_ && es.any (·.refKey))=false
   rw [zhL h3,Bool.and_false]
  dsimp only
  rw [aRefKeyMayBeTheName_at,cc]
  refine wpAny_updatePart h2 ?_
  have eP:=putName_dict (zaM f) (PyData.keyHash W.w.params (zaM f)) (.str (zaM f) (s.toks+1)) p es n
  have Fl:=zkR (c.fl _ hf).2 rx (s.toks+1) h3 lt
  have S':=k _ _ _ _ (s.toks+2) eP Fl (fun p hp=>(ziB hp).elim (fun q=>by rw [q]; exact hf) (h4 p))
  have D':(s.heap.update dx (Obj.putName (zaM f) (PyData.keyHash W.w.params (zaM f)) (.str (zaM f) (s.toks+1)) p)).get? dx=some (dictOf (putL (zaM f) (PyData.keyHash W.w.params (zaM f)) (.str (zaM f) (s.toks+1)) p es) (putN (zaM f) es n)):=by
   rw [← eP]; exact Heap.get?_update_self _ h2 (by rw [eP]; rfl)
  refine wpAny_bind (wpAny_lookBehind D' ?_ ?_)
  ·refine pastItsLine_dict ?_
   have h5:=zkQ Fl
   have h6:=ziA (f:=f) (x:=x) fs
   rw [List.size_toArray,sizeLine_eq]; exact zaj (.i (.l Va (.k 100)) (.i (.e Vb Vc) (.i (.l Vc (.a Va K1)) (.l Vb (.a (.k 16777216) K1))))) rfl hl h5 h6
  ·exact wpAny_pure ⟨K,_,Le.rfl,S',h⟩
end
noncomputable def zdW:List (Str × V):=[
 (S "clamp",.raw (.ref 62)),
 (S "erased_pen",.raw (.ref 69)),
 (S "blank_cell",.raw (.ref 76)),
 (S "is_blank",.raw (.ref 83)),
 (S "is_plain_blank",.raw (.ref 90)),
 (S "line_blanks",.raw (.ref 98)),
 (S "right_half",.raw (.ref 105)),
 (S "line_part",.raw (.ref 112)),
 (S "reflow_lines_equal",.raw (.ref 487)),
 (S "reflow_used",.raw (.ref 543)),
 (S "reflow_begins_wide",.raw (.ref 550)),
 (S "reflow_part",.raw (.ref 557)),
 (S "reflow_goes_on",.raw (.ref 564)),
 (S "logical_of",.raw (.ref 571)),
 (S "cut_with_places",.raw (.ref 578)),
 (S "reflow_place",.raw (.ref 585)),
 (S "reflow_line",.raw (.ref 592)),
 (S "reflow_cutting",.raw (.ref 655)),
 (S "reflowed",.raw (.ref 662)),
 (S "width_in_ranges",.raw (.ref 678)),
 (S "width_check_ranges",.raw (.ref 685)),
 (S "charset_table",.raw (.ref 831)),
 (S "terminal_fit",.raw (.ref 1496)),
 (S "_law_take",.raw (.ref 1510)),
 (S "_law_screen",.raw (.ref 1517)),
 (S "_law_written",.raw (.ref 1524)),
 (S "_law_group",.raw (.ref 1531)),
 (S "_law_texts",.raw (.ref 1538)),
 (S "_law_laid",.raw (.ref 1545)),
 (S "_law_seen",.raw (.ref 1550)),
 (S "_law_is_so",.raw (.ref 1555)),
 (S "law",.raw (.ref 1560)),
 (S "Line",.raw (.ref 251)),
 (S "Grid",.raw (.ref 396)),
 (S "History",.raw (.ref 478)),
 (S "LogicalLine",.raw (.ref 532)),
 (S "Cutting",.raw (.ref 644)),
 (S "WidthTable",.raw (.ref 716)),
 (S "Modes",.raw (.ref 792)),
 (S "Charsets",.raw (.ref 920)),
 (S "Cursor",.raw (.ref 976)),
 (S "Margins",.raw (.ref 1109)),
 (S "Tabs",.raw (.ref 1208)),
 (S "Screen",.raw (.ref 1485)),
 (S "NO_COLOUR",.int (-1)),
 (S "PLAIN",.tup [.int (0),.int (-1),.int (-1),.int (-1),.int 0]),
 (S "BACK",.int 2),
 (S "LINE_SIZES",.tup [.str (S "single"),.str (S "wide"),.str (S "top"),.str (S "bottom")]),
 (S "SINGLE",.str (S "single")),
 (S "LEFT_FIRST",.int 32),
 (S "LEFT_LAST",.int 127),
 (S "RIGHT_FIRST",.int 160),
 (S "RIGHT_LAST",.int 255),
 (S "ASCII_SET",.bytes #[66]),
 (S "SUPPLEMENT_SET",.bytes #[37,53]),
 (S "FIRST_ON",.tup [.str (S "send_receive"),.str (S "autowrap"),.str (S "autorepeat"),.str (S "show_cursor"),.str (S "num_lock")]),
 (S "TAB_WIDTH",.int 8),
 (S "WIDE_SIZES",.tup [.str (S "wide"),.str (S "top"),.str (S "bottom")]),
 (S "_law_bare",.tup [.tup [],.int 1,.tup [.int (0),.int (-1),.int (-1),.int (-1),.int 0],.bool false]),
 (S "_law_looks",.tup [.tup [.int (0),.int (-1),.int (-1),.int (-1),.int 0],.tup [.int (1),.int 3,.int (-1),.int (-1),.int 0],.tup [.int (4),.int (-1),.int (-1),.int 5,.int 0]])]
noncomputable def zd4:List (Nat × Nat × Nat):=[
 (251,0,162),
 (251,1,169),
 (251,2,248),
 (396,3,274),
 (396,4,288),
 (396,5,293),
 (396,6,300),
 (396,7,307),
 (396,2,388),
 (478,8,442),
 (478,2,475),
 (532,1,508),
 (532,9,515),
 (532,10,522),
 (532,11,529),
 (644,1,613),
 (644,12,620),
 (644,13,634),
 (644,14,641),
 (716,15,706),
 (792,16,782),
 (920,17,853),
 (920,18,860),
 (920,19,910),
 (976,20,966),
 (976,2,973),
 (1109,21,1036),
 (1208,22,1134),
 (1208,23,1169),
 (1208,24,1198),
 (1485,3,1235),
 (1485,25,1242),
 (1485,26,1249),
 (1485,27,1256),
 (1485,28,1263),
 (1485,29,1270),
 (1485,20,1277),
 (1485,30,1284),
 (1485,31,1291),
 (1485,32,1305),
 (1485,33,1312),
 (1485,34,1319),
 (1485,35,1326),
 (1485,36,1333),
 (1485,7,1347),
 (1485,37,1361),
 (1485,38,1375),
 (1485,39,1382),
 (1485,40,1389)]
noncomputable def itab:List (Nat × Nat):=[(251,140),(396,267),(478,428),(532,501),(644,606),(716,699),(792,775),(920,846),(976,945),(1109,994),(1208,1127),(1485,1228)]
noncomputable def zdd:List (Str × Value):=[(S "len",.builtin "len"),(S "max",.builtin "max"),(S "min",.builtin "min"),(S "all",.builtin "all"),(S "sorted",.builtin "sorted"),(S "list",.type "list"),(S "int",.type "int"),
 (S "range",.type "range"),(S "enumerate",.type "enumerate"),(S "zip",.type "zip")]
set_option genInjectivity false in
set_option genSizeOf false in
structure Cx where
 names:List (Str × NameKind)
 vars:List Str
noncomputable def place? (l:List Str) (x:Str):Option Nat:=l.findIdx? (· == x)
noncomputable def fid (x:Str):Option Nat:=place? fnm x
noncomputable def mid (x:Str):Option Nat:=place? mnm x
noncomputable def isB (cx:Cx) (x:Str):Bool:=cx.names.lookup x == some .globalImplicit && (zdW.lookup x).isNone && (zdd.lookup x).isSome
noncomputable def zcS (cx:Cx) (x:Str):List I:=if x == S "__debug__" || x == S "__classdict__" then [.bad] else match cx.names.lookup x with
 | some .local | some .cell | some .free=>(match place? cx.vars x with | some i=>[.loc i] | none=>[.bad])
 | some .globalImplicit=>(match zdW.lookup x with | some v=>[.lit v] | none=>(match zdd.lookup x with | some v=>[.lit (.raw v)] | none=>[.bad]))
 | _=>[.bad]
noncomputable def zhv:Const→List I
 | .none=>[.lit .none] | .bool b=>[.lit (.bool b)] | .int i=>[.lit (.int i)] | .str s=>[.lit (.str s)] | .bytes b=>[.lit (.bytes b.toArray)] | _=>[.bad]
theorem ff {p:Prop} (h:false=true):p:=Bool.noConfusion h
theorem tf {p:Prop} (h:true=false):p:=Bool.noConfusion h
noncomputable def zbV (e:Expr):Bool:=Nat.beq e.ctorIdx 22
noncomputable def zcw:List Str→Bool | []=>true | x::r=>!r.contains x && zcw r
noncomputable def zbi:Nat→Cx→Expr→List I
 | 0,_,_=>[.bad]
 | n+1,cx,t=>(match t with
  | .Name x _=>if cx.names.lookup x == some .local then (match place? cx.vars x with | some i=>[.sto i] | none=>[.bad]) else [.bad]
  | .Tuple es _ _=>if es.any zbV then [.bad] else .unp es.length::es.flatMap (zbi n cx)
  | _=>[.bad])
noncomputable def zbr (names:List (Str × NameKind)):List Str:=(names.filter fun p=>(p.2 == .local && p.1 != S ".0") || p.2 == .free).map (·.1)
noncomputable def zdm (cx:Cx) (sc:Scope):Bool:=sc.kind == .function && zcw (zbr sc.names) && sc.names.all fun p=>p.2 != .cell && (p.2 != .local || sc.names.lookup p.1 == some .local) &&
 (p.2 != .free || (sc.names.lookup p.1 == some .free && (place? cx.vars p.1).isSome && (cx.names.lookup p.1 == some .cell || cx.names.lookup p.1 == some .free)))
noncomputable abbrev Rc:=Cx→Expr→List I
noncomputable def zh2:Expr→Bool | .UnaryOp .Not _ _ | .BoolOp ..=>true | _=>false
noncomputable def zhZ (e:Expr):Bool:=Nat.beq e.ctorIdx 5
noncomputable def zbb (rc:Rc) (cx:Cx) (e:Expr):List I:=if zh2 e then rc cx e else if zhZ e then [.bad] else rc cx e++[.chk]
noncomputable def zbK (rc:Rc) (cx:Cx) (op:BoolOp):List Expr→List I
 | []=>[.bad]
 | e::r=>zbb rc cx e++(if r.isEmpty then [] else match op with
  | .And=>[.ite (zbK rc cx op r) [iF]]
  | .Or=>[.ite [iT] (zbK rc cx op r)])
noncomputable def zbs (rc:Rc) (cx:Cx):List Expr→List I
 | []=>[]
 | e::r=>rc cx e++zbs rc cx r
noncomputable def zfT:(e:Expr)→Option {q:Str × List Expr × Pos × Pos // e=.Call (.Name q.1 q.2.2.1) q.2.1 [] q.2.2.2} | .Call (.Name x p) args [] pos=>some ⟨(x,args,p,pos),rfl⟩ | _=>none
noncomputable def kdOf (cx:Cx) (x:Str):Kd:=if isB cx x then (if x == S "range" then .range else if x == S "enumerate" then .enum else if x == S "zip" then .zip else .plain) else .plain
noncomputable def zbj (cx:Cx) (e:Expr):Kd:=match zfT e with | some q=>kdOf cx q.1.1 | none=>.plain
noncomputable def zh0 (e:Expr):Bool:=Nat.beq e.ctorIdx 7
noncomputable def zdZ:Expr→List Expr | .Call _ args _ _=>args | _=>[]
noncomputable def zcF (rc:Rc) (cx:Cx) (it:Expr):List I:=match zbj cx it with
 | .plain=>rc cx it
 | _=>zbs rc cx (zdZ it)
noncomputable def zce (cx:Cx) (it:Expr):Nat:=match zbj cx it with | .plain=>1 | _=>(zdZ it).length
noncomputable def zcH (e:Expr):Bool:=Nat.beq e.ctorIdx 25
noncomputable def zb5 (cx:Cx) (t it:Expr):Bool:=match zbj cx it with
 | .plain=>zh0 it
 | .range=>(zdZ it).any zbV
 | _=>(zdZ it).any zbV || !zcH t
noncomputable def zeq:Expr→Bool | .Call (.Name _ _) [] [] _=>true | _=>false
noncomputable abbrev zch:Expr→Bool:=zbV
noncomputable def zeK (rc:Rc) (cx:Cx) (f:Expr) (args:List Expr) (pos:Pos):List I:=if args.any zch || 28 < args.length then [.bad] else match f with
 | .Attribute o m p=>if zeq o || p.endLine != pos.line then [.bad] else (match mid m with | some i=>rc cx o++[.mth i]++zbs rc cx args++[.call (args.length+1)] | none=>[.bad])
 | _=>rc cx f++zbs rc cx args++[.call args.length]
noncomputable def zdK (n:Int):(e:Expr)→Option (PLift (∃ kk p,e=.Constant (.int n) kk p)) | .Constant (.int a) kk p=>if h:a=n then some ⟨kk,p,h ▸ rfl⟩ else none | _=>none
noncomputable def zfK (op:Operator) (l r:Expr):Bool:=decide (op=.Pow) && ((zdK 10 l).isSome && (zdK 9 r).isSome)
noncomputable abbrev ze7:Expr→Bool:=zh0
noncomputable def zcE (rc:Rc) (cx:Cx) (l:Expr) (ops:List CmpOp) (cs:List Expr):List I:=if cs.any ze7 then [.bad] else match ops,cs with
 | [op],[r]=>rc cx l++rc cx r++[.cmp op]
 | [op,op'],[r,r']=>rc cx l++rc cx r++[.cmpk op,.ite (rc cx r'++[.cmp op']) [.pop,iF]]
 | _,_=>[.bad]
noncomputable def zcb (rc:Rc) (cx:Cx):Option Expr→List I | some e=>rc cx e | none=>[.lit .none]
noncomputable def zjQ:(o:Option Expr)→Option {a:Str // ∃ kk pos,o=some (.Constant (.str a) kk pos)} | some (.Constant (.str a) kk pos)=>some ⟨a,kk,pos,rfl⟩ | _=>none
noncomputable def zdl (o:Option Expr):Option Str:=(zjQ o).map (·.1)
noncomputable def zeL (rc:Rc) (cx:Cx) (ks:List (Option Expr)) (vs:List Expr):List I:=match ks with
 | []=>(match vs with | []=>[.dct 0] | _::_=>[.bad])
 | [k1,k2]=>(match zdl k1 with | none=>[.bad] | some a=>(match zdl k2 with | none=>[.bad] | some b=>(match vs with | [x,y]=>[.lit (.str a)]++rc cx x++[.lit (.str b)]++rc cx y++[.dct 4] | _=>[.bad])))
 | _=>[.bad]
noncomputable def ze8 (e:Expr):Bool:=Nat.beq e.ctorIdx 26
noncomputable def zke (rc:Rc) (cx:Cx) (o:Expr) (l u st:Option Expr):List I:=match st with | none=>rc cx o++zcb rc cx l++zcb rc cx u++[.slc] | some _=>[.bad]
noncomputable def zeN (rc:Rc) (cx:Cx) (o i:Expr):List I:=if ze8 i then (match i with | .Slice l u st _=>zke rc cx o l u st | _=>[.bad]) else rc cx o++rc cx i++[.idx]
noncomputable abbrev zct (cx:Cx) (sc:Scope):List (Option Nat):=(zbr sc.names).map fun x=>if sc.names.lookup x == some .free then place? cx.vars x else none
noncomputable def zeM (rc:Rc) (cx:Cx) (e:Expr) (g:Comprehension) (sc:Scope):List I:=if (g.ifs.isEmpty && g.is_async == 0) && (!zb5 cx g.target g.iter && zdm cx sc) then .has (zct cx sc)::(zcF rc cx g.iter++[.lc (zbj cx g.iter) (zce cx g.iter) (zct cx sc) (zbi 8 ⟨sc.names,zbr sc.names⟩ g.target) (rc ⟨sc.names,zbr sc.names⟩ e)]) else [.bad]
noncomputable def zcR (rc:Rc) (cx:Cx) (e:Expr) (gs:List Comprehension) (sc:Scope):List I:=match gs with | []=>[.bad] | g::r=>if r.isEmpty then zeM rc cx e g sc else [.bad]
noncomputable def zcL (rc:Rc) (cx:Cx) (e:Expr):List I:=match e with
 | .Constant c _ _=>zhv c
 | .Name x _=>zcS cx x
 | .Attribute e f _=>if zeq e then [.bad] else (match fid f with | some i=>rc cx e++[.attr i] | none=>[.bad])
 | .Call f args kws pos=>if kws.isEmpty then zeK rc cx f args pos else [.bad]
 | .BinOp l op r _=>if zfK op l r then [(iI 1000000000)] else rc cx l++rc cx r++[.bin op]
 | .UnaryOp op e _=>(match op with | .USub=>rc cx e++[.neg] | .Not=>zbb rc cx e++[.notb] | _=>[.bad])
 | .BoolOp op vs _=>zbK rc cx op vs
 | .Compare l ops cs _=>zcE rc cx l ops cs
 | .IfExp t a b _=>zbb rc cx t++[.ite (rc cx a) (rc cx b)]
 | .Tuple es _ _=>if es.any zch then [.bad] else zbs rc cx es++[.tup es.length]
 | .List es _=>if es.any zch then [.bad] else zbs rc cx es++[.lst es.length]
 | .Dict ks vs _=>zeL rc cx ks vs
 | .Subscript o i _=>zeN rc cx o i
 | .ListComp e gs sc _=>zcR rc cx e gs sc
 | _=>[.bad]
noncomputable def zdh:Nat→Rc
 | 0=>fun _ _=>[.bad]
 | n+1=>zcL (zdh n)
noncomputable def zdi (rc:Rc) (cx:Cx) (t:Expr):List I:=match t with
 | .Attribute o f _=>(match fid f with | some i=>rc cx o++[.sattr i] | none=>[.bad])
 | .Subscript o i _=>(match i with | .Slice ..=>[.bad] | _=>rc cx o++rc cx i++[.sidx])
 | t=>zbi 8 cx t
noncomputable def zdP (rc:Rc) (cx:Cx):List Expr→List I
 | []=>[]
 | t::r=>zdi rc cx t++zdP rc cx r
noncomputable def zcQ (rc:Rc) (cx:Cx) (t:Expr):List I:=match t with
 | .Tuple es _ _=>if es.any zbV then [.bad] else .unp es.length::zdP rc cx es
 | t=>zdi rc cx t
noncomputable def zhY (e:Expr):Bool:=Nat.beq e.ctorIdx 8 || (Nat.beq e.ctorIdx 9 || Nat.beq e.ctorIdx 10)
noncomputable def zdC:Expr→Expr→Bool | .Tuple ts _ _,.Tuple vs _ _=>ts.length == 3 || (vs.all (constantsAlone 8) && !vs.all (foldedForSure 8)) | .List ..,_=>true | _,_=>false
noncomputable def zfc (cx:Cx):Expr→Expr→Bool | .Name y _,.ListComp ..=>!(cx.names.lookup y == some .local && (place? cx.vars y).isSome) | _,_=>false
noncomputable abbrev Sc:=Cx→Stmt→List I
noncomputable def zbo (sc:Sc) (cx:Cx):List Stmt→List I
 | []=>[]
 | s::r=>sc cx s++zbo sc cx r
noncomputable def zjs (rc:Rc) (sc:Sc) (cx:Cx) (s:Stmt):List I:=match s with
 | .Assign ts v _=>(match ts with | [t]=>if zdC t v || zfc cx t v then [.bad] else rc cx v++zcQ rc cx t | _=>[.bad])
 | .Expr e _=>if zhY e then [.bad] else rc cx e++[.pop]
 | .Return v _=>zcb rc cx v++[.ret]
 | .If t b e _=>zbb rc cx t++[.ite (zbo sc cx b) (zbo sc cx e)]
 | .While t b e _=>if e.isEmpty then [.whl (zbb rc cx t) (zbo sc cx b)] else [.bad]
 | .For t it b e _=>if e.isEmpty && !zb5 cx t it then zcF rc cx it++[.fr (zbj cx it) (zce cx it) (zbi 8 cx t) (zbo sc cx b)] else [.bad]
 | .Pass _=>[]
 | _=>[.bad]
noncomputable def zdO:Nat→Sc
 | 0=>fun _ _=>[.bad]
 | n+1=>zjs (zdh 20) (zdO n)
noncomputable def zcq (st:Stmt):Cx:=⟨(zaL st).names,((zaL st).names.filter fun p=>p.2 == .local || p.2 == .cell).map (·.1)⟩
noncomputable def zbx (i j:Nat):List I:=zbo (zdO 12) (zcq (dg i j)) (zbL (dg i j))
noncomputable def zjP (i:Int):(v:Value)→Option (PLift (∃ t,v=.int i t)) | .int j t=>if e:j=i then some ⟨t,e ▸ rfl⟩ else none | _=>none
noncomputable def zjS (i:Str):(v:Value)→Option (PLift (∃ t,v=.str i t)) | .str j t=>if e:j=i then some ⟨t,e ▸ rfl⟩ else none | _=>none
noncomputable def zjO (i:Array UInt8):(v:Value)→Option (PLift (∃ t,v=.bytes i t)) | .bytes j t=>if e:j=i then some ⟨t,e ▸ rfl⟩ else none | _=>none
noncomputable def zjR:(v:Value)→Option {a:Addr // v=.ref a} | .ref a=>some ⟨a,rfl⟩ | _=>none
noncomputable def zjT:(o:Obj)→Option {p:Array Value × Nat // o=zbf p.1 p.2} | ⟨c,none,.seq vs n,⟨[]⟩⟩=>if e:c=.type "tuple" then some ⟨(vs,n),e ▸ rfl⟩ else none | _=>none
mutual
noncomputable def zeI {F:Frag} {K:Fz} (h:∀ a o,F.lookup a=some o→K a=some o):(x:V)→(v:Value)→Option (PLift (Rep K x v))
 | .none,v=>if e:v=.none then some ⟨Rep.none_iff.mpr e⟩ else none
 | .bool b,v=>if e:v=.bool b then some ⟨Rep.bool_iff.mpr e⟩ else none
 | .int i,v=>(zjP i v).map fun p=>⟨Rep.int_iff.mpr p.down⟩
 | .str i,v=>(zjS i v).map fun p=>⟨Rep.str_iff.mpr p.down⟩
 | .bytes i,v=>(zjO i v).map fun p=>⟨Rep.bytes_iff.mpr p.down⟩
 | .tup l,v=>(zjR v).bind fun p=>match e:F.lookup p.1 with | none=>none | some o=>(zjT o).bind fun q=>(zhr h l q.1.1.toList).map fun r=>⟨Rep.tup_iff.mpr ⟨p.1,q.1.2,q.1.1,p.2,(h _ _ e).trans (congrArg some q.2),r.down⟩⟩
 | .ref _,_=>none
 | .raw w,v=>if e:v=w then some ⟨Rep.raw_iff.mpr e⟩ else none
noncomputable def zhr {F:Frag} {K:Fz} (h:∀ a o,F.lookup a=some o→K a=some o):(l:List V)→(vs:List Value)→Option (PLift (zaf K l vs))
 | [],[]=>some ⟨zaf.nil⟩
 | x::l,v::r=>(zeI h x v).bind fun p=>(zhr h l r).map fun q=>⟨zaf.cons p.down q.down⟩
 | _,_=>none
end
noncomputable def gV (P:Params) (x:Str):Option Value:=match nsIn (KF P) mainGlobals x with | some (some v)=>some v | _=>none
noncomputable def gOk (P:Params) {K:Fz} (h:∀ a o,(KF P).lookup a=some o→K a=some o):Bool:=zdW.all fun p=>(gV P p.1).any fun v=>(zeI h p.2 v).isSome
theorem g_ok (P:Params) {K:Fz} (h:∀ a o,(KF P).lookup a=some o→K a=some o):gOk P h=true:=by kernel_rfl
noncomputable def bOk (P:Params):Bool:=zdd.all fun p=>nsIn (KF P) mainGlobals p.1 == some none && bootBuiltins p.1 == some p.2 && p.1 != "__name__"
theorem b_ok (P:Params):bOk P=true:=by kernel_rfl
section
variable {W:Wx} {P:Params}
theorem zkX {P:Params} {x:Str} {v:Value} (h:gV P x=some v):nsIn (KF P) mainGlobals x=some (some v):=by
 unfold gV at h
 rcases q:nsIn (KF P) mainGlobals x with _ | _ | y <;> rw [q] at h
 ·injection h
 ·injection h
 ·rw [Option.some.inj h]
theorem zk0 {x:Str} {y:V} (h:zdW.lookup x=some y) (P:Params) {K:Fz} (hK:∀ a o,(KF P).lookup a=some o→K a=some o):∃ v,nsIn (KF P) mainGlobals x=some (some v)∧Rep K y v:=
 ((Option.any_eq_true_iff_get _ _).mp (List.all_eq_true.mp (g_ok P hK) _ (zcJ h))).elim fun e q=>⟨_,zkX (Option.some_get e).symm,((zeI hK y _).get q).down⟩
theorem zj3 {x:Str} {y:Value} (h:zdd.lookup x=some y) (P:Params):nsIn (KF P) mainGlobals x=some none∧bootBuiltins x=some y∧x≠"__name__":=by
 have:=List.all_eq_true.mp (b_ok P) _ (zcJ h)
 simp only [Bool.and_eq_true,beq_iff_eq,bne_iff_ne] at this
 exact ⟨this.1.1,this.1.2,this.2⟩
noncomputable def KNs (K:Fz) (L:Addr) (m:Str→Option Value):Prop:=∃ o es ep,K L=some o∧o.data=.dict es ep∧StrKeys es∧∀ n,nsFind es n=m n
noncomputable def zaZ (K X:Fz) (env:Env) (m:Str→Option Value) (x:Str):Option V→Prop
 | none=>True
 | some y=>match env.scope.names.lookup x with
  | some .local=>∃ v,m x=some v∧Rep K y v
  | some .cell | some .free=>∃ c oc v,env.cells.lookup x=some c∧X c=some oc∧oc.data=.cell (some v)∧Rep K y v
  | _=>False
structure zau (W:Wx) (K X:Fz) (cx:Cx) (env:Env) (ρ:Ro):Prop where
 names:∀ x,env.scope.names.lookup x=cx.names.lookup x∨(cx.names.lookup x=some .free∧env.scope.names.lookup x=some .cell)
 kind:env.scope.kind=.function
 glob:env.globals=mainGlobals
 blt:env.builtins=builtinsNs
 nd:cx.vars.Nodup
 len:ρ.length=cx.vars.length
 ns:∃ m,KNs X env.locals m∧∀ (i:Nat) (x:Str),cx.vars[i]?=some x→zaZ K X env m x (ρ[i]?.join)
 base:W.h₀.get? env.locals=none
theorem zaZ.le {K K' X:Fz} {env:Env} {m:Str→Option Value} {x:Str} {y:Option V} (h:Le K K') (s:zaZ K X env m x y):zaZ K' X env m x y:=by
 induction y with
 | none=>trivial
 | some y =>
  unfold zaZ at s ⊢
  induction q:env.scope.names.lookup x with
  | none=>rw [q] at s; exact s
  | some kd =>
   rw [q] at s
   induction kd with
   | «local»=>obtain ⟨v,a,b⟩:=s; exact ⟨v,a,b.le h⟩
   | cell=>obtain ⟨c,oc,v,a,b,e,r⟩:=s; exact ⟨c,oc,v,a,b,e,r.le h⟩
   | free=>obtain ⟨c,oc,v,a,b,e,r⟩:=s; exact ⟨c,oc,v,a,b,e,r.le h⟩
   | globalExplicit=>exact s
   | globalImplicit=>exact s
theorem zau.le {K K' X:Fz} {cx:Cx} {env:Env} {ρ:Ro} (h:Le K K') (F:zau W K X cx env ρ):zau W K' X cx env ρ:=
 let ⟨m,⟨o,es,ep,a,b⟩,c⟩:=F.ns
 ⟨F.names,F.kind,F.glob,F.blt,F.nd,F.len,⟨m,⟨o,es,ep,a,b⟩,fun i x q=>(c i x q).le h⟩,F.base⟩
theorem zaZ.leX {K X X':Fz} {env:Env} {m:Str→Option Value} {x:Str} {y:Option V} (h:Le X X') (s:zaZ K X env m x y):zaZ K X' env m x y:=by
 induction y with
 | none=>trivial
 | some y =>
  unfold zaZ at s ⊢
  induction q:env.scope.names.lookup x with
  | none=>rw [q] at s; exact s
  | some kd =>
   rw [q] at s
   induction kd with
   | «local»=>exact s
   | cell=>obtain ⟨c,oc,v,a,b,e,r⟩:=s; exact ⟨c,oc,v,a,h _ _ b,e,r⟩
   | free=>obtain ⟨c,oc,v,a,b,e,r⟩:=s; exact ⟨c,oc,v,a,h _ _ b,e,r⟩
   | globalExplicit=>exact s
   | globalImplicit=>exact s
theorem zau.leX {W:Wx} {K X X':Fz} {cx:Cx} {env:Env} {ρ:Ro} (h:Le X X') (F:zau W K X cx env ρ):zau W K X' cx env ρ:=
 let ⟨m,⟨o,es,ep,a,b⟩,c⟩:=F.ns
 ⟨F.names,F.kind,F.glob,F.blt,F.nd,F.len,⟨m,⟨o,es,ep,h _ _ a,b⟩,fun i x q=>(c i x q).leX h⟩,F.base⟩
theorem KNs.ns {K X:Fz} {L:Addr} {m:Str→Option Value} {H:Hp} {s:Shared} (h:KNs X L m) (hS:W.Sat K X H s):s.heap.Ns L m:=
 let ⟨o,es,ep,a,b⟩:=h; ⟨o,es,ep,hS.keepX _ _ a,b⟩
noncomputable def SE (W:Wx) (rc:Rc):Prop:=∀ d cx e k st ρ H Q,Run W d (rc cx e++k) st ρ H Q→∀ A s K X env,zaw d A→W.Sat K X H s→zau W K X cx env ρ →
 wpAny W.M A (eval e env) (zaY W K X fun x H'=>Run W d k (x::st) ρ H' Q) NoE s
inductive PB (W:Wx) (d:Nat) (k:List I) (st:List V) (ρ:Ro) (Q:Out→Prop) (K X:Fz) (b:Bool) (s':Shared):Prop
 | mk (K':Fz) (H':Hp) (le:Le K K') (hS:W.Sat K' X H' s') (h:Run W d k (.bool b::st) ρ H' Q)
noncomputable def ST (W:Wx) (rc:Rc):Prop:=∀ d cx e k st ρ H Q,Run W d (zbb rc cx e++k) st ρ H Q→∀ A s K X env,zaw d A→W.Sat K X H s→zau W K X cx env ρ →
 wpAny W.M A (isTrue e env (eval e env)) (PB W d k st ρ Q K X) NoE s
theorem zcf {l:List Str} {x:Str} {i:Nat} (h:place? l x=some i):l[i]?=some x:=by
 unfold place? at h
 obtain ⟨a,b,_⟩:=List.findIdx?_eq_some_iff_getElem.mp h
 rw [List.getElem?_eq_getElem a,beq_iff_eq.mp b]
theorem zfa {α:Type} {o:Option (Option α)} {a:α} (h:o=some (some a)):o.join=some a:=by rw [h]; rfl
theorem ziW {d cx x k st ρ H Q pos} (h:Run W d (zcS cx x++k) st ρ H Q) {A s K env} (hS:W.Sat K X H s) (F:zau W K X cx env ρ) :
  wpAny W.M A (eval (.Name x pos) env) (zaY W K X fun y H'=>Run W d k (y::st) ρ H' Q) NoE s:=by
 unfold zcS at h
 split at h
 ·exact h.off
 rename_i hx
 simp only [Bool.or_eq_true,beq_iff_eq,not_or] at hx
 have hd:(x == ("__debug__":Str))=false:=beq_eq_false_iff_ne.mpr hx.1
 have hc:(x == ("__classdict__":Str))=false:=beq_eq_false_iff_ne.mpr hx.2
 have kd0:cx.names.lookup x≠some .free→env.scope.names.lookup x=cx.names.lookup x:=fun n=>(F.names x).resolve_right fun q=>n q.1
 have kd:cx.names.lookup x≠some .free→env.kindOf x=cx.names.lookup x:=kd0
 have slot:∀ i,place? cx.vars x=some i→∀ y,ρ[i]?=some (some y)→∃ m,KNs X env.locals m∧zaZ K X env m x (some y):=fun i hi y hy=>by
  obtain ⟨m,h1,h2⟩:=F.ns
  have:=h2 i x (zcf hi)
  rw [zfa hy] at this
  exact ⟨m,h1,this⟩
 split at h
 case h_1 q =>
  split at h
  ·rename_i i hi
   obtain ⟨y,hy,hr⟩:=Run.inv h
   obtain ⟨m,h1,h2⟩:=slot i hi y hy
   unfold zaZ at h2
   rw [(kd0 (by rw [q]; simp)).trans q] at h2
   obtain ⟨v,hv,rv⟩:=h2
   exact wpAny_Name (wpAny_loadName_local F.kind ((kd (by rw [q]; simp)).trans q) (h1.ns hS) hv (zax hS rv hr)) hd
  ·exact h.off
 case h_2 q =>
  split at h
  ·rename_i i hi
   obtain ⟨y,hy,hr⟩:=Run.inv h
   obtain ⟨m,h1,h2⟩:=slot i hi y hy
   unfold zaZ at h2
   rw [(kd0 (by rw [q]; simp)).trans q] at h2
   obtain ⟨c,oc,v,e1,e2,e3,rv⟩:=h2
   exact wpAny_Name (wpAny_loadName_cell F.kind ((kd (by rw [q]; simp)).trans q) e1 ⟨oc,hS.keepX _ _ e2,e3⟩ (zax hS rv hr)) hd
  ·exact h.off
 case h_3 q =>
  split at h
  ·rename_i i hi
   obtain ⟨y,hy,hr⟩:=Run.inv h
   obtain ⟨m,h1,h2⟩:=slot i hi y hy
   unfold zaZ at h2
   rcases F.names x with q' | ⟨_,q'⟩
   ·rw [q'.trans q] at h2
    obtain ⟨c,oc,v,e1,e2,e3,rv⟩:=h2
    exact wpAny_Name (wpAny_loadName_free F.kind (q'.trans q) e1 ⟨oc,hS.keepX _ _ e2,e3⟩ (zax hS rv hr) hc) hd
   ·rw [q'] at h2
    obtain ⟨c,oc,v,e1,e2,e3,rv⟩:=h2
    exact wpAny_Name (wpAny_loadName_cell F.kind q' e1 ⟨oc,hS.keepX _ _ e2,e3⟩ (zax hS rv hr)) hd
  ·exact h.off
 case h_4 q =>
  have hT:=W.top.keeps hS.stays
  split at h
  ·rename_i y hy
   have hr:=Run.iLit h
   obtain ⟨v,e1,e2⟩:=zk0 hy W.w.params (K:=K) fun a o e=>hS.base _ _ (W.says.1 a o e)
   refine Name_function_global F.kind ((kd (by rw [q]; simp)).trans q) (loadGlobal_global (by rw [F.glob]; exact hT.g) (mg_of (W.frag hS) hT.g e1) (zax hS ?_ hr)) hd
   exact e2
  ·split at h
   ·rename_i y hy
    have hr:=Run.iLit h
    obtain ⟨e1,e2,e3⟩:=zj3 hy W.w.params
    exact Name_function_global F.kind ((kd (by rw [q]; simp)).trans q) (loadGlobal_builtin (by rw [F.glob]; exact hT.g) (mg_none_of (W.frag hS) hT.g e1) (by rw [F.blt]; exact hT.b) ((W.top.builtins x e3).trans e2) (zax hS (Rep.raw_iff.mpr rfl) hr)) hd
   ·exact h.off
 case h_5=>exact h.off
theorem zoE {d c kk k st ρ H Q pos} (h:Run W d (zhv c++k) st ρ H Q) {A s K env} (hS:W.Sat K X H s) :
  wpAny W.M A (eval (.Constant c kk pos) env) (zaY W K X fun y H'=>Run W d k (y::st) ρ H' Q) NoE s:=by
 rcases c with _ | _ <;> first | exact h.off | exact fun _ _ _=>zax hS (Rep.none_iff.mpr rfl) (Run.iLit h) | exact fun _ _ _=>zax hS (Rep.bool_iff.mpr rfl) (Run.iLit h) | exact fun _ _ _=>zax hS (Rep.int_iff.mpr ⟨_,rfl⟩) (Run.iLit h) | exact fun _ _ _=>zax hS (Rep.str_iff.mpr ⟨_,rfl⟩) (Run.iLit h) | exact fun _ _ _=>zax hS (Rep.bytes_iff.mpr ⟨_,rfl⟩) (Run.iLit h)
end
theorem zj5 (P:Params):(zf4.all fun a=>keepIn (KF P) (.ref a))=true:=by kernel_rfl
theorem zfX {o:Expr} {f:Str} {env:Env} {w:Sem Value} (h:zeq o=false):attributeBase o f env w=w:=by
 rcases o with _ | _ <;> try rfl
 rename_i f args kws pos
 rcases f with _ | _ <;> try rfl
 rcases args with _ | _ <;> try rfl
 rcases kws with _ | _
 ·injection h
 ·rfl
theorem zhI {f:Str} {i:Nat} (h:fid f=some i):zaM i=f:=by unfold zaM; rw [zcf h]; rfl
theorem zmH {f:Str} {i:Nat} (h:mid f=some i):zbv i=f:=by unfold zbv; rw [zcf h]; rfl
section
variable {W:Wx} {rc:Rc} {d:Nat} {cx:Cx} {k:List I} {st:List V} {ρ:Ro} {H:Hp} {Q:Out→Prop} {A:Around} {s:Shared} {K X:Fz} {env:Env}
theorem zaY.up {K K' X:Fz} {R:V→Hp→Prop} {v:Value} (h:Le K K') (p:zaY W K' X R v s):zaY W K X R v s:=let ⟨K2,x,H',a,b,c,e⟩:=p; ⟨K2,x,H',h.trans a,b,c,e⟩
theorem zaY.mono {R R':V→Hp→Prop} {v:Value} (p:zaY W K X R v s) (h:∀ x H',R x H'→R' x H'):zaY W K X R' v s:=let ⟨K2,x,H',a,b,c,e⟩:=p; ⟨K2,x,H',a,b,c,h _ _ e⟩
noncomputable abbrev PR (W:Wx) (d:Nat) (k:List I) (st:List V) (ρ:Ro) (Q:Out→Prop) (K X:Fz) (v:Value) (s':Shared):Prop:=zaY W K X (fun x H'=>Run W d k (x::st) ρ H' Q) v s'
theorem zbn {α:Type} {t:Sem Value} {f:Value→Sem α} {R:V→Hp→Prop} {Q':α→Shared→Prop} (h:wpAny W.M A t (zaY W K X R) NoE s) (g:∀ v s' K' x H',Le K K'→W.Sat K' X H' s'→Rep K' x v→R x H'→wpAny W.M A (f v) Q' NoE s'):wpAny W.M A (t >>= f) Q' NoE s:=
 wpAny_bind (wpAny_mono h (fun v s' ⟨K',x,H',a,b,c,e⟩=>g v s' K' x H' a b c e) fun _ _ e=>e)
theorem zoA (ih:SE W rc) {e f pos} (h:Run W d ((if zeq e then [.bad] else match fid f with | some i=>rc cx e++[.attr i] | none=>[.bad])++k) st ρ H Q) (hA:zaw d A) (hS:W.Sat K X H s) (F:zau W K X cx env ρ) :
  wpAny W.M A (eval (.Attribute e f pos) env) (PR W d k st ρ Q K X) NoE s:=by
 split at h
 ·exact h.off
 rename_i hs
 split at h
 ·rename_i i hi
  rw [List.append_assoc,List.singleton_append] at h
  rw [arm_eval_Attribute]
  rw [zfX (by simpa using hs)]
  refine zbn (ih _ _ _ _ _ _ _ _ h _ _ _ _ _ hA hS F) fun v s' K' x H' le hS' rv hr=>wpAny_bind (wpAny_standAt (wpAny_bind (wpAny_holding ?_)))
  obtain ⟨_,hop,hk⟩:=Run.inv hr
  have:=hop A s' K' _ [v] hA hS' (zaf.cons rv zaf.nil)
  rw [zhI hi] at this
  exact wpAny_mono this (fun r s'' p=>wpAny_bind (wpAny_letTemporaryGo (wpAny_pure ((p.up le).mono hk)))) fun _ _ e=>e
 ·exact h.off
theorem zqh {s:Shared} {t u:Tok} {R:V→Hp→Prop} (hS:W.Sat K X H s) (h:R (.int 1000000000) H):wpAny W.M A (binaryOp .Pow (.int 10 t) (.int 9 u)) (zaY W K X R) NoE s:=by
 refine AutoIntOps.pow_4 (by decide) (by decide) (by decide) (by decide) (by decide +kernel) ?_
 exact zax hS (Rep.int_iff.mpr ⟨_,rfl⟩) h
theorem zhz {i:Int} {kk:Nat} {pos:Pos} {s:Shared} {Q':Value→Shared→Prop} (h:Q' (.int i s.toks) { s with toks:=s.toks+1 }):wpAny W.M A (eval (.Constant (.int i) kk pos) env) Q' NoE s:=fun _ _ _=>h
theorem zqg {op:Operator} {l r:Expr} (h:zfK op l r=true):op=.Pow∧∃ kk p kk' p',l=.Constant (.int 10) kk p∧r=.Constant (.int 9) kk' p':=
 have q:=Bool.and_eq_true_iff.mp h
 have q2:=Bool.and_eq_true_iff.mp q.2
 ((zdK 10 l).get q2.1).down.elim fun kk h1=>h1.elim fun p h1=>((zdK 9 r).get q2.2).down.elim fun kk' h2=>h2.elim fun p' h2=>⟨of_decide_eq_true q.1,kk,p,kk',p',h1,h2⟩
theorem zoB (ih:SE W rc) {l r op pos} (h:Run W d ((if zfK op l r then [(iI 1000000000)] else rc cx l++rc cx r++[.bin op])++k) st ρ H Q) (hA:zaw d A) (hS:W.Sat K X H s) (F:zau W K X cx env ρ) :
  wpAny W.M A (eval (.BinOp l op r pos) env) (PR W d k st ρ Q K X) NoE s:=by
 split at h
 ·rename_i q
  rw [List.singleton_append] at h
  have hr:=Run.iLit h
  obtain ⟨rfl,kk,p,kk',p',rfl,rfl⟩:=zqg q
  rw [arm_eval_BinOp]
  refine wpAny_bind (zhz (wpAny_bind (wpAny_holding (zhz (wpAny_bind (wpAny_standAt (wpAny_operateT ?_)))))))
  have S2:W.Sat K X H { heap:=s.heap,gens:=s.gens,drawn:=s.drawn,toks:=s.toks+1+1,os:=s.os }:=Sat.of_heap hS rfl rfl rfl
  exact zqh S2 hr
 ·simp only [List.append_assoc,List.singleton_append] at h
  rw [arm_eval_BinOp]
  refine zbn (ih _ _ _ _ _ _ _ _ h _ _ _ _ _ hA hS F) fun v s' K' x H' le hS' rv hr=>?_
  refine wpAny_bind (wpAny_holding (wpAny_mono (ih _ _ _ _ _ _ _ _ hr _ _ _ _ _ hA hS' (F.le le)) (fun v2 s2 ⟨K2,x2,H2,le2,hS2,rv2,hr2⟩=>?_) fun _ _ e=>e))
  refine wpAny_bind (wpAny_standAt (wpAny_operateT ?_))
  obtain ⟨_,hop,hk⟩:=Run.inv hr2
  exact wpAny_mono (hop A s2 K2 _ [v,v2] hA hS2 (zaf.cons (rv.le le2) (zaf.cons rv2 zaf.nil))) (fun r s'' p=>(p.up (le.trans le2)).mono hk) fun _ _ e=>e
theorem zfI {e:Expr} {es:List Expr} (h:zbV e=false):starEach (e::es) env=(false,eval e env)::starEach es env:=by
 rcases e with _ | _ <;> first | rfl | exact tf h
inductive PAll (W:Wx) (d:Nat) (k:List I) (st:List V) (ρ:Ro) (Q:Out→Prop) (K X:Fz) (n:Nat) (vs:List Value) (s':Shared):Prop
 | mk (K':Fz) (H':Hp) (l:List V) (le:Le K K') (hS:W.Sat K' X H' s') (r:zaf K' l vs) (hl:l.length=n) (h:Run W d k (l.reverse++st) ρ H' Q)
theorem zdz (ih:SE W rc) {pos:Pos}:∀ {es:List Expr} {st ρ H} {K X:Fz} {s:Shared},es.any zch=false→Run W d (zbs rc cx es++k) st ρ H Q→zaw d A→W.Sat K X H s→zau W K X cx env ρ →
  wpAny W.M A (spliced (backTo pos (starEach es env))) (PAll W d k st ρ Q K X es.length) NoE s
 | [],st,ρ,H,K,X,s,_,h,hA,hS,F=>by
  rw [arm_starEach_nil]
  exact wpAny_pure ⟨K,H,[],Le.rfl,hS,zaf.nil,rfl,by simpa [zbs] using h⟩
 | e::es,st,ρ,H,K,X,s,hst,h,hA,hS,F=>by
  simp only [List.any_cons,Bool.or_eq_false_iff] at hst
  rw [zfI hst.1]
  unfold zbs at h
  rw [List.append_assoc] at h
  show wpAny _ _ (spliced ((false,eval e env)::backTo pos (starEach es env))) _ _ _
  unfold spliced
  refine zbn (ih _ _ _ _ _ _ _ _ h _ _ _ _ _ hA hS F) fun v s' K' x H' le hS' rv hr=>?_
  refine wpAny_bind (wpAny_pure ?_)
  refine wpAny_bind (wpAny_holding (wpAny_mono (zdz ih hst.2 hr hA hS' (F.le le)) (fun vs s2 ⟨K2,H2,l,le2,hS2,rl,hl,hr2⟩=>?_) fun _ _ e=>e))
  exact wpAny_pure ⟨K2,H2,x::l,le.trans le2,hS2,zaf.cons (rv.le le2) rl,by simp [hl],by simpa using hr2⟩
theorem zoM (ih:SE W rc) {es kk pos} (h:Run W d ((if es.any zch then [.bad] else zbs rc cx es++[.tup es.length])++k) st ρ H Q) (hA:zaw d A) (hS:W.Sat K X H s) (F:zau W K X cx env ρ) :
  wpAny W.M A (eval (.Tuple es kk pos) env) (PR W d k st ρ Q K X) NoE s:=by
 split at h
 ·exact h.off
 rename_i hst
 rw [List.append_assoc,List.singleton_append] at h
 rw [arm_eval_Tuple]
 refine wpAny_bind (wpAny_standAt (wpAny_bind (wpAny_mono (zdz ih (by simpa using hst) h hA hS F) (fun vs s2 ⟨K2,H2,l,le2,hS2,rl,hl,hr2⟩=>?_) fun _ _ e=>e)))
 obtain ⟨_,l',h1,h2,h3,h4⟩:=Run.inv hr2
 obtain ⟨e1,rfl⟩:=List.append_inj h3 (by simp [hl,h1])
 have e1:=List.reverse_inj.mp e1
 subst e1
 exact wpAny_newTuple ((zix hS2 rl h4).up le2) (by rw [rl.length,sizeLine_eq]; exact zad (.i (.e Va Vb) (.i (.l Vb (.k 1000)) (.l Va (.k 16777216)))) rfl hl h2)
theorem zoI (ih:SE W rc) {es pos} (h:Run W d ((if es.any zch then [.bad] else zbs rc cx es++[.lst es.length])++k) st ρ H Q) (hA:zaw d A) (hS:W.Sat K X H s) (F:zau W K X cx env ρ) :
  wpAny W.M A (eval (.List es pos) env) (PR W d k st ρ Q K X) NoE s:=by
 split at h
 ·exact h.off
 rename_i hst
 rw [List.append_assoc,List.singleton_append] at h
 rw [arm_eval_List]
 refine wpAny_bind (wpAny_standAt (wpAny_bind (wpAny_mono (zdz ih (by simpa using hst) h hA hS F) (fun vs s2 ⟨K2,H2,l,le2,hS2,rl,hl,hr2⟩=>?_) fun _ _ e=>e)))
 obtain ⟨_,l',h1,h2,h3,h4⟩:=Run.inv hr2
 obtain ⟨e1,rfl⟩:=List.append_inj h3 (by simp [hl,h1])
 have e1:=List.reverse_inj.mp e1
 subst e1
 exact wpAny_newList ((zd9 (vs:=vs.toArray) (n:=0) hS2 rl h4).up le2) (by rw [rl.length,sizeLine_eq]; exact zad (.i (.e Va Vb) (.i (.l Vb (.k 1000)) (.l Va (.k 16777216)))) rfl hl h2)
theorem zc6 {b:Bool} {Q:Bool→Shared→Prop} (h:Q b s):wpAny W.M A (truthy (.bool b)) Q NoE s:=fun _ _ _=>h
theorem zoK (ih:SE W rc) (it:ST W rc) {e pos} (h:Run W d (zbb rc cx e++[.notb]++k) st ρ H Q) (hA:zaw d A) (hS:W.Sat K X H s) (F:zau W K X cx env ρ) :
  wpAny W.M A (eval (.UnaryOp .Not e pos) env) (PR W d k st ρ Q K X) NoE s:=by
 rw [arm_eval_UnaryOp]
 rw [List.append_assoc,List.singleton_append] at h
 have fin:∀ {v s' K' H'} {b:Bool},Le K K'→W.Sat K' X H' s'→Rep K' (.bool b) v→Run W d k (.bool (!b)::st) ρ H' Q→wpAny W.M A (do standAt pos; holding [v] (unaryOp .Not v)) (PR W d k st ρ Q K X) NoE s':=fun le hS' rv hr=>by
  obtain rfl:=Rep.bool_iff.mp rv
  refine wpAny_bind (wpAny_standAt (wpAny_holding ?_))
  exact not_value (zc6 ((zax hS' (Rep.bool_iff.mpr rfl) hr).up le))
 unfold zbb at h
 split at h
 ·refine zbn (ih _ _ _ _ _ _ _ _ h _ _ _ _ _ hA hS F) fun v s' K' x H' le hS' rv hr=>?_
  obtain ⟨b,rfl,hq⟩:=Run.inv hr
  exact fin le hS' rv hq
 ·split at h
  ·exact h.off
  ·rw [List.append_assoc,List.singleton_append] at h
   refine zbn (ih _ _ _ _ _ _ _ _ h _ _ _ _ _ hA hS F) fun v s' K' x H' le hS' rv hr=>?_
   obtain ⟨b,rfl,hq⟩:=Run.inv hr
   exact fin le hS' rv hq.iNot
theorem zoJ (ih:SE W rc) {e pos} (h:Run W d (rc cx e++[.neg]++k) st ρ H Q) (hA:zaw d A) (hS:W.Sat K X H s) (F:zau W K X cx env ρ) :
  wpAny W.M A (eval (.UnaryOp .USub e pos) env) (PR W d k st ρ Q K X) NoE s:=by
 rw [arm_eval_UnaryOp]
 rw [List.append_assoc,List.singleton_append] at h
 refine zbn (ih _ _ _ _ _ _ _ _ h _ _ _ _ _ hA hS F) fun v s' K' x H' le hS' rv hr=>?_
 obtain ⟨a,rfl,hq⟩:=Run.inv hr
 obtain ⟨t,rfl⟩:=Rep.int_iff.mp rv
 exact wpAny_bind (wpAny_standAt (wpAny_holding (PyProof.Rows.neg_int ((zax hS' (Rep.int_iff.mpr ⟨_,rfl⟩) hq).up le))))
theorem zoG (ih:SE W rc) (it:ST W rc) {t a b pos} (h:Run W d (zbb rc cx t++[.ite (rc cx a) (rc cx b)]++k) st ρ H Q) (hA:zaw d A) (hS:W.Sat K X H s) (F:zau W K X cx env ρ) :
  wpAny W.M A (eval (.IfExp t a b pos) env) (PR W d k st ρ Q K X) NoE s:=by
 rw [List.append_assoc,List.singleton_append] at h
 refine wpAny_IfExp (wpAny_mono (it _ _ _ _ _ _ _ _ h _ _ _ _ _ hA hS F) (fun c s' ⟨K',H',le,hS',hr⟩=>?_) fun _ _ e=>e)
 have hr:=hr.iIte
 induction c
 ·exact wpAny_mono (ih _ _ _ _ _ _ _ _ hr _ _ _ _ _ hA hS' (F.le le)) (fun _ _ p=>p.up le) fun _ _ e=>e
 ·exact wpAny_mono (ih _ _ _ _ _ _ _ _ hr _ _ _ _ _ hA hS' (F.le le)) (fun _ _ p=>p.up le) fun _ _ e=>e
end
section
variable {W:Wx} {rc:Rc} {d:Nat} {cx:Cx} {k:List I} {st:List V} {ρ:Ro} {H:Hp} {Q:Out→Prop} {A:Around} {s:Shared} {K X:Fz} {env:Env}
theorem zes {M:Model} {vs keep:List Value} {Q:Unit→Shared→Prop} {E:Value→Shared→Prop} (h:Q () s):wpAny M A (release vs keep) Q E s:=fun Γ p _=>by rw [Sem.wp_release]; exact h
theorem se_B (ih:SE W rc) {e} (h:Run W d (zbb rc cx e++k) st ρ H Q) (hA:zaw d A) (hS:W.Sat K X H s) (F:zau W K X cx env ρ) :
  wpAny W.M A (eval e env) (PR W d k st ρ Q K X) NoE s:=by
 unfold zbb at h
 split at h
 ·exact ih _ _ _ _ _ _ _ _ h _ _ _ _ _ hA hS F
 ·split at h
  ·exact h.off
  ·rw [List.append_assoc,List.singleton_append] at h
   refine wpAny_mono (ih _ _ _ _ _ _ _ _ h _ _ _ _ _ hA hS F) (fun v s' p=>p.mono fun x H' hr=>?_) fun _ _ e=>e
   obtain ⟨_,rfl,hq⟩:=Run.inv hr
   exact hq
theorem zfy (ih:SE W rc) {op:BoolOp} {pos:Pos}:∀ {es:List Expr} {st H} {K X:Fz} {s:Shared},Run W d (zbK rc cx op es++k) st ρ H Q→zaw d A→W.Sat K X H s→zau W K X cx env ρ →
  wpAny W.M A (boolOp pos op (evalEach es env)) (PR W d k st ρ Q K X) NoE s
 | [],st,H,K,X,s,h,_,_,_=>by unfold zbK at h; exact h.off
 | [e],st,H,K,X,s,h,hA,hS,F=>by
  unfold zbK at h
  simp only [List.isEmpty_nil,if_true,List.append_nil] at h
  exact se_B ih h hA hS F
 | e::e2::r,st,H,K,X,s,h,hA,hS,F=>by
  unfold zbK at h
  simp only [List.isEmpty_cons,Bool.false_eq_true,if_false,List.append_assoc] at h
  show wpAny _ _ (boolOp pos op (eval e env::eval e2 env::evalEach r env)) _ _ _
  unfold boolOp
  refine zbn (se_B ih h hA hS F) fun v s' K' x H' le hS' rv hr=>?_
  rcases op with _ | _ <;> obtain ⟨b,rfl,hq⟩:=Run.inv hr <;> obtain rfl:=Rep.bool_iff.mp rv <;> refine wpAny_bind (wpAny_standAt (wpAny_bind (wpAny_holding (zc6 ?_)))) <;> induction b
  ·exact wpAny_pure ((zax hS' (Rep.bool_iff.mpr rfl) (Run.iLit hq)).up le)
  ·exact wpAny_mono (zfy ih hq hA hS' (F.le le)) (fun _ _ p=>p.up le) fun _ _ e=>e
  ·exact wpAny_mono (zfy ih hq hA hS' (F.le le)) (fun _ _ p=>p.up le) fun _ _ e=>e
  ·exact wpAny_pure ((zax hS' (Rep.bool_iff.mpr rfl) (Run.iLit hq)).up le)
theorem zig {op:CmpOp} {e:Expr} (h:ze7 e=false):lastMarks [op] [e]=false:=by
 rcases e with _ | _ <;> first | rfl | exact tf h
theorem zhu {l ops cs} (h:Run W d (zcE rc cx l ops cs++k) st ρ H Q):lastMarks ops cs=false∧((∃ op r,ops=[op]∧cs=[r]∧Run W d (rc cx l++(rc cx r++(.cmp op::k))) st ρ H Q) ∨
  ∃ op op' r r',ops=[op,op']∧cs=[r,r']∧Run W d (rc cx l++(rc cx r++(.cmpk op::.ite (rc cx r'++[.cmp op']) [.pop,iF]::k))) st ρ H Q):=by
 unfold zcE at h
 rcases q:cs.any ze7 <;> rw [q] at h
 rotate_left
 ·exact h.off
 rw [if_neg (by decide)] at h
 rcases ops with _ | ⟨op,_ | ⟨op',_ | ⟨_,_⟩⟩⟩
 ·exact h.off
 ·rcases cs with _ | ⟨r,_ | ⟨_,_⟩⟩
  ·exact h.off
  ·rw [List.append_assoc,List.append_assoc] at h
   exact ⟨zig ((Bool.or_eq_false_iff.mp q).1),.inl ⟨op,r,rfl,rfl,h⟩⟩
  ·exact h.off
 ·rcases cs with _ | ⟨r,_ | ⟨r',_ | ⟨_,_⟩⟩⟩
  ·exact h.off
  ·exact h.off
  ·rw [List.append_assoc,List.append_assoc] at h
   exact ⟨zig (op:=op') ((Bool.or_eq_false_iff.mp (Bool.or_eq_false_iff.mp q).2).1),.inr ⟨op,op',r,r',rfl,rfl,h⟩⟩
  ·exact h.off
 ·exact h.off
theorem zoD (ih:SE W rc) {l ops cs pos} (h:Run W d (zcE rc cx l ops cs++k) st ρ H Q) (hA:zaw d A) (hS:W.Sat K X H s) (F:zau W K X cx env ρ) :
  wpAny W.M A (eval (.Compare l ops cs pos) env) (PR W d k st ρ Q K X) NoE s:=by
 obtain ⟨hm,hh⟩:=zhu h
 clear h
 rw [arm_eval_Compare,markedEach_of_false _ _ _ hm]
 rcases hh with ⟨op,r,rfl,rfl,h⟩ | ⟨op,op',r,r',rfl,rfl,h⟩
 ·refine zbn (ih _ _ _ _ _ _ _ _ h _ _ _ _ _ hA hS F) fun v s' K' x H' le hS' rv hr=>?_
  show wpAny _ _ (do let rv ← holding [v] (eval r env); standAt pos; operate [v,rv] (compareOp op v rv)) _ _ _
  refine wpAny_bind (wpAny_holding (wpAny_mono (ih _ _ _ _ _ _ _ _ hr _ _ _ _ _ hA hS' (F.le le)) (fun v2 s2 ⟨K2,x2,H2,le2,hS2,rv2,hr2⟩=>?_) fun _ _ e=>e))
  refine wpAny_bind (wpAny_standAt (wpAny_operateT ?_))
  obtain ⟨_,hop,hk⟩:=Run.inv hr2
  exact wpAny_mono (hop A s2 K2 _ [v,v2] hA hS2 (zaf.cons (rv.le le2) (zaf.cons rv2 zaf.nil))) (fun r s'' p=>(p.up (le.trans le2)).mono hk) fun _ _ e=>e
 ·refine zbn (ih _ _ _ _ _ _ _ _ h _ _ _ _ _ hA hS F) fun v s' K' x H' le hS' rv hr=>?_
  show wpAny _ _ (do let rv ← holding [v] (eval r env); standAt pos; let c ← holding [v,rv] (compareOp op v rv); release [v,rv] [c]; if ← holding [c,rv] (truthy c) then compareChain pos rv [op'] [eval r' env] else pure c) _ _ _
  refine wpAny_bind (wpAny_holding (wpAny_mono (ih _ _ _ _ _ _ _ _ hr _ _ _ _ _ hA hS' (F.le le)) (fun v2 s2 ⟨K2,x2,H2,le2,hS2,rv2,hr2⟩=>?_) fun _ _ e=>e))
  refine wpAny_bind (wpAny_standAt ?_)
  obtain ⟨c,hop,hk⟩:=Run.inv hr2
  refine wpAny_bind (wpAny_holding (wpAny_mono (hop A s2 K2 _ [v,v2] hA hS2 (zaf.cons (rv.le le2) (zaf.cons rv2 zaf.nil))) (fun cv s3 ⟨K3,x3,H3,le3,hS3,rv3,e1,e2⟩=>?_) fun _ _ e=>e))
  subst e1 e2
  obtain rfl:=Rep.bool_iff.mp rv3
  refine wpAny_bind (zes (wpAny_bind (wpAny_holding (zc6 ?_))))
  have hk:=Run.iIte hk
  induction c
  ·simp only [Bool.false_eq_true,if_false,List.cons_append,List.nil_append] at hk ⊢
   exact wpAny_pure ((zax hS3 (Rep.bool_iff.mpr rfl) (Run.iLit (Run.iPop hk))).up ((le.trans le2).trans le3))
  ·simp only [if_true,List.append_assoc,List.singleton_append] at hk ⊢
   show wpAny _ _ (do let rv ← holding [v2] (eval r' env); standAt pos; operate [v2,rv] (compareOp op' v2 rv)) _ _ _
   refine wpAny_bind (wpAny_holding (wpAny_mono (ih _ _ _ _ _ _ _ _ hk _ _ _ _ _ hA hS3 (F.le ((le.trans le2).trans le3))) (fun v4 s4 ⟨K4,x4,H4,le4,hS4,rv4,hr4⟩=>?_) fun _ _ e=>e))
   refine wpAny_bind (wpAny_standAt (wpAny_operateT ?_))
   obtain ⟨_,hop',hk'⟩:=Run.inv hr4
   exact wpAny_mono (hop' A s4 K4 _ [v2,v4] hA hS4 (zaf.cons (rv2.le (le3.trans le4)) (zaf.cons rv4 zaf.nil))) (fun r s'' p=>(p.up (((le.trans le2).trans le3).trans le4)).mono hk') fun _ _ e=>e
theorem zfH (it:ST W rc) {op:BoolOp}:∀ {es:List Expr} {st H} {K X:Fz} {s:Shared},Run W d (zbK rc cx op es++k) st ρ H Q→zaw d A→W.Sat K X H s→zau W K X cx env ρ →
  wpAny W.M A (allTrue op es env) (PB W d k st ρ Q K X) NoE s
 | [],st,H,K,X,s,h,_,_,_=>by unfold zbK at h; exact h.off
 | [e],st,H,K,X,s,h,hA,hS,F=>by
  unfold zbK at h
  simp only [List.isEmpty_nil,if_true,List.append_nil] at h
  rw [arm_allTrue_cons]
  refine wpAny_bind (wpAny_mono (it _ _ _ _ _ _ _ _ h _ _ _ _ _ hA hS F) (fun b s' p=>?_) fun _ _ e=>e)
  rcases op with _ | _ <;> rcases b with _ | _ <;> exact wpAny_pure p
 | e::e2::r,st,H,K,X,s,h,hA,hS,F=>by
  unfold zbK at h
  simp only [List.isEmpty_cons,Bool.false_eq_true,if_false,List.append_assoc] at h
  rw [arm_allTrue_cons]
  refine wpAny_bind (wpAny_mono (it _ _ _ _ _ _ _ _ h _ _ _ _ _ hA hS F) (fun b s' ⟨K',H',le,hS',hr⟩=>?_) fun _ _ e=>e)
  induction op
  ·simp only [List.singleton_append] at hr
   have hr:=Run.iIte hr
   induction b
   ·rw [if_neg (by simp),List.singleton_append] at hr
    have hr:=Run.iLit hr
    exact wpAny_pure ⟨K',H',le,hS',hr⟩
   ·rw [if_pos rfl] at hr
    exact wpAny_mono (zfH it hr hA hS' (F.le le)) (fun _ _ ⟨K2,H2,a,b,c⟩=>⟨K2,H2,le.trans a,b,c⟩) fun _ _ e=>e
  ·simp only [List.singleton_append] at hr
   have hr:=Run.iIte hr
   induction b
   ·rw [if_neg (by simp)] at hr
    exact wpAny_mono (zfH it hr hA hS' (F.le le)) (fun _ _ ⟨K2,H2,a,b,c⟩=>⟨K2,H2,le.trans a,b,c⟩) fun _ _ e=>e
   ·rw [if_pos rfl,List.singleton_append] at hr
    have hr:=Run.iLit hr
    exact wpAny_pure ⟨K',H',le,hS',hr⟩
theorem zp3 (ih:SE W rc) {l ops cs pos w} (h:Run W d (zcE rc cx l ops cs++k) st ρ H Q) (hk:∀ {x H'},Run W d k (x::st) ρ H' Q→∃ b,x=.bool b) (hA:zaw d A) (hS:W.Sat K X H s) (F:zau W K X cx env ρ) :
  wpAny W.M A (isTrue (.Compare l ops cs pos) env w) (PB W d k st ρ Q K X) NoE s:=by
 obtain ⟨hm,hh⟩:=zhu h
 clear h
 have fin:∀ {v s' K'},Le K K'→PR W d k st ρ Q K' X v s'→wpAny W.M A (holding [v] (truthy v)) (PB W d k st ρ Q K X) NoE s':=by
  rintro v s' K' le ⟨K2,x,H2,le2,hS2,rv2,hr2⟩
  obtain ⟨b,rfl⟩:=hk hr2
  obtain rfl:=Rep.bool_iff.mp rv2
  exact wpAny_holding (zc6 ⟨K2,H2,le.trans le2,hS2,hr2⟩)
 rw [arm_isTrue_Compare,markedEach_of_false _ _ _ hm]
 rcases hh with ⟨op,r,rfl,rfl,h⟩ | ⟨op,op',r,r',rfl,rfl,h⟩
 ·refine zbn (ih _ _ _ _ _ _ _ _ h _ _ _ _ _ hA hS F) fun v s' K' x H' le hS' rv hr=>?_
  show wpAny _ _ (do let rv ← holding [v] (eval r env); standAt pos; let c ← operate [v,rv] (compareOp op v rv); holding [c] (truthy c)) _ _ _
  refine wpAny_bind (wpAny_holding (wpAny_mono (ih _ _ _ _ _ _ _ _ hr _ _ _ _ _ hA hS' (F.le le)) (fun v2 s2 ⟨K2,x2,H2,le2,hS2,rv2,hr2⟩=>?_) fun _ _ e=>e))
  refine wpAny_bind (wpAny_standAt (wpAny_bind (wpAny_operateT ?_)))
  obtain ⟨_,hop,hk'⟩:=Run.inv hr2
  exact wpAny_mono (hop A s2 K2 _ [v,v2] hA hS2 (zaf.cons (rv.le le2) (zaf.cons rv2 zaf.nil))) (fun r s'' p=>fin (le.trans le2) (p.mono hk')) fun _ _ e=>e
 ·refine zbn (ih _ _ _ _ _ _ _ _ h _ _ _ _ _ hA hS F) fun v s' K' x H' le hS' rv hr=>?_
  show wpAny _ _ (do let rv ← holding [v] (eval r env); standAt pos; let c ← holding [v,rv] (compareOp op v rv); release [v,rv] [c]; if ← holding [c,rv] (truthy c) then testChain pos rv [op'] [eval r' env] else pure false) _ _ _
  refine wpAny_bind (wpAny_holding (wpAny_mono (ih _ _ _ _ _ _ _ _ hr _ _ _ _ _ hA hS' (F.le le)) (fun v2 s2 ⟨K2,x2,H2,le2,hS2,rv2,hr2⟩=>?_) fun _ _ e=>e))
  refine wpAny_bind (wpAny_standAt ?_)
  obtain ⟨c,hop,hk'⟩:=Run.inv hr2
  refine wpAny_bind (wpAny_holding (wpAny_mono (hop A s2 K2 _ [v,v2] hA hS2 (zaf.cons (rv.le le2) (zaf.cons rv2 zaf.nil))) (fun cv s3 ⟨K3,x3,H3,le3,hS3,rv3,e1,e2⟩=>?_) fun _ _ e=>e))
  subst e1 e2
  obtain rfl:=Rep.bool_iff.mp rv3
  refine wpAny_bind (zes (wpAny_bind (wpAny_holding (zc6 ?_))))
  have hk':=Run.iIte hk'
  induction c
  ·simp only [Bool.false_eq_true,if_false,List.cons_append,List.nil_append] at hk' ⊢
   exact wpAny_pure ⟨K3,_,(le.trans le2).trans le3,hS3,Run.iLit (Run.iPop hk')⟩
  ·simp only [if_true,List.append_assoc,List.singleton_append] at hk' ⊢
   show wpAny _ _ (do let rv ← holding [v2] (eval r' env); standAt pos; let c ← operate [v2,rv] (compareOp op' v2 rv); holding [c] (truthy c)) _ _ _
   refine wpAny_bind (wpAny_holding (wpAny_mono (ih _ _ _ _ _ _ _ _ hk' _ _ _ _ _ hA hS3 (F.le ((le.trans le2).trans le3))) (fun v4 s4 ⟨K4,x4,H4,le4,hS4,rv4,hr4⟩=>?_) fun _ _ e=>e))
   refine wpAny_bind (wpAny_standAt (wpAny_bind (wpAny_operateT ?_)))
   obtain ⟨_,hop',hk2⟩:=Run.inv hr4
   exact wpAny_mono (hop' A s4 K4 _ [v2,v4] hA hS4 (zaf.cons (rv2.le (le3.trans le4)) (zaf.cons rv4 zaf.nil))) (fun r s'' p=>fin (((le.trans le2).trans le3).trans le4) (p.mono hk2)) fun _ _ e=>e
end
section
variable {W:Wx} {rc:Rc} {d:Nat} {cx:Cx} {k:List I} {st:List V} {ρ:Ro} {H:Hp} {Q:Out→Prop} {A:Around} {s:Shared} {K X:Fz} {env:Env}
theorem zh3 {f:Value} (hf:zb2 f=true) (hS:W.Sat K X H s):∃ k,(k=Keeper.frame∨k=Keeper.machine∨k=Keeper.boundFrame)∧Looks W.M s.heap (keeperOf f) k:=by
 rcases f with _ | _ <;> first | (cases hf; done) | skip
 ·exact ⟨.machine,.inr (.inl rfl),Looks.of_pure rfl⟩
 ·exact ⟨.machine,.inr (.inl rfl),Looks.of_pure rfl⟩
 ·rename_i a
  exact keeps_K (List.all_eq_true.mp (zj5 W.w.params) a (List.contains_iff_mem.mp hf)) _ (W.frag hS)
theorem zf2 {pos:Pos} {f:Value} {first:List Value} {args:List (Bool × Sem Value)} {Q':Value→Shared→Prop} (hplain:args.any (·.1)=false)
  (h:wpAny W.M A (evalArgs f true args []) (fun a s₁=>(∃ k,(k=Keeper.frame∨k=Keeper.machine∨k=Keeper.boundFrame)∧Looks W.M s₁.heap (keeperOf f) k)∧wpAny W.M A (PySem.call f (first++a.pos) a.kw) Q' NoE s₁) NoE s):wpAny W.M A (callWith pos f first args []) Q' NoE s:=by
 unfold callWith
 refine wpAny_bind (wpAny_holding (wpAny_mono h (fun a s₁ h₁=>wpAny_bind (wpAny_standAt ?_)) fun _ _ x=>x))
 obtain ⟨⟨k,hk',L⟩,h₁⟩:=h₁
 simp only [hplain,List.any_nil,Bool.or_false]
 refine wpAny_bind (L.here ?_)
 have tail:∀ {t:Sem Value},wpAny W.M A t Q' NoE s₁→wpAny W.M A (t >>= fun r=>holding [r] point >>= fun _=>pure r) Q' NoE s₁:=
  fun ht=>wpAny_bind (wpAny_mono ht (fun r s₂ hr=>wpAny_bind (wpAny_holding (wpAny_point (wpAny_pure hr)))) fun _ _ x=>x)
 have marked (mk:Value):wpAny W.M A (callMarked mk f (first++a.pos) a.kw) Q' NoE s₁:=by unfold callMarked; exact Calls.wpAny_keep h₁
 rcases hk' with rfl | rfl | rfl <;> dsimp only <;> first | exact tail h₁ | (split <;> first | exact tail h₁ | exact tail (marked _))
theorem zeo:∀ {es:List Expr},es.any zch=false→∀ (pos:Pos) (env:Env),(backTo pos (starEach es env)).any (·.1)=false
 | [],_,_,_=>rfl
 | e::es,h,pos,env=>by
  simp only [List.any_cons,Bool.or_eq_false_iff] at h
  rw [zfI h.1]
  exact zeo h.2 pos env
theorem zhH {f:Value} {es:List Expr} {pos:Pos} {Q':Args→Shared→Prop} (hst:es.any zch=false) (h:wpAny W.M A (spliced (backTo pos (starEach es env))) (fun vs s'=>Q' ⟨vs,[]⟩ s') NoE s) :
  wpAny W.M A (evalArgs f true (backTo pos (starEach es env)) []) Q' NoE s:=by
 induction es using List.casesOn with
 | nil =>
  rw [arm_starEach_nil] at h ⊢
  unfold evalArgs
  show wpAny _ A (spliced [] >>= _) _ _ s
  refine wpAny_bind (wpAny_mono h (fun vs s' h'=>wpAny_bind (wpAny_pure (wpAny_holding ?_))) fun _ _ x=>x)
  exact wpAny_bind (wpAny_pure (wpAny_bind (wpAny_pure (wpAny_pure h'))))
 | cons e es =>
  simp only [List.any_cons,Bool.or_eq_false_iff] at hst
  rw [zfI hst.1] at h ⊢
  exact evalArgs_plain h
theorem zf3 (ih:SE W rc) {es:List Expr} {pos:Pos} {f:Value} {n:Nat} {pre:List Value} {pl:List V} {x₀:V} (hst:es.any zch=false) (r₀:Rep K x₀ f) (h:Run W d (zbs rc cx es++(.call n::k)) (pl.reverse++x₀::st) ρ H Q) (hn:n=pl.length+es.length)
  (hpre:zaf K pl pre) (hA:zaw d A) (hS:W.Sat K X H s) (F:zau W K X cx env ρ):wpAny W.M A (callWith pos f pre (backTo pos (starEach es env)) []) (PR W d k st ρ Q K X) NoE s:=by
 refine zf2 (zeo hst _ _) (zhH hst (wpAny_mono (zdz ih hst h hA hS F) (fun vs s2 ⟨K2,H2,l,le2,hS2,rl,hl,hr2⟩=>?_) fun _ _ e=>e))
 obtain ⟨st2,R,h5,f',l',h1,h2,h3,h4⟩:=Run.inv hr2
 have h2':(pl++l).reverse++(x₀::st)=l'.reverse++(.raw f'::st2):=by rw [← h2]; simp
 obtain ⟨e1,e2⟩:=List.append_inj h2' (by simp [h1,hn,hl]; exact zad (.e (.a Va Vb) (.a Vb Va)) rfl)
 have e3:=(List.cons.inj e2).1
 have e4:=(List.cons.inj e2).2
 subst e3 e4
 obtain rfl:=Rep.raw_iff.mp r₀
 have e1:=List.reverse_inj.mp e1
 subst e1
 exact ⟨zh3 h3 hS2,wpAny_mono (h4 A s2 K2 _ (pre++vs) hA hS2 ((hpre.le le2).append rl)) (fun v s3 p=>(p.up le2).mono h5) fun _ _ e=>e⟩
theorem zoC (ih:SE W rc) {f args pos} (h:Run W d (zeK rc cx f args pos++k) st ρ H Q) (hA:zaw d A) (hS:W.Sat K X H s) (F:zau W K X cx env ρ) :
  wpAny W.M A (eval (.Call f args [] pos) env) (PR W d k st ρ Q K X) NoE s:=by
 unfold zeK at h
 split at h
 ·exact h.off
 rename_i hq
 simp only [Bool.or_eq_true,decide_eq_true_eq,not_or,Bool.not_eq_true] at hq
 have hst:=hq.1
 split at h
 ·rename_i o m p
  split at h
  ·exact h.off
  rename_i hq2
  simp only [Bool.or_eq_true,bne_iff_ne,not_or,Bool.not_eq_true,Decidable.not_not] at hq2
  split at h
  ·rename_i i hi
   simp only [List.append_assoc,List.singleton_append,List.cons_append,List.nil_append] at h
   rw [arm_eval_Call,zfX hq2.1]
   refine zbn (ih _ _ _ _ _ _ _ _ h _ _ _ _ _ hA hS F) fun v s' K' x H' le hS' rv hr=>wpAny_bind (wpAny_standAt ?_)
   obtain ⟨f',hm,hr⟩:=Run.inv hr
   unfold methodCall
   have few:methodCallForm (args.length+([]:List Keyword).length) (backTo pos (starEach args env)) (backToKw pos (keywordEach [] env))=true:=by
    have e1:=zeo hst pos env
    unfold methodCallForm
    have:(backTo pos (starEach args env)).all (fun x=>!x.1)=true:=by
     rw [List.all_eq_not_any_not]; simpa using e1
    rw [this]
    show (true && true && decide (args.length+0+0 < 30))=true
    simp; exact zag (.i (.n (.t (.k 28) Va)) (.t Va (.k 30))) rfl hq.2
   rw [few]
   refine wpAny_bind (wpAny_holding ?_)
   have hg:=hm A s' K' _ v (do return (← importBound o env).getD true) hA hS' rv
   rw [zmH hi] at hg
   refine hg _ ?_
   refine wpAny_bind ?_
   unfold methodCallPos
   rw [if_pos (by rw [hq2.2]; simp)]
   refine wpAny_pure ?_
   exact wpAny_mono (zf3 ih (pl:=[x]) (pre:=[v]) hst (Rep.raw_iff.mpr rfl) hr (by simp; exact zag (.e (.a Va K1) (.a K1 Va)) rfl) (zaf.cons rv zaf.nil) hA hS' (F.le le)) (fun _ _ p=>p.up le) fun _ _ e=>e
  ·exact h.off
 ·rename_i hna
  simp only [List.append_assoc,List.singleton_append] at h
  have he:eval (.Call f args [] pos) env=(do callWith pos (← eval f env) [] (backTo pos (starEach args env)) (backToKw pos (keywordEach [] env))):=by
   rcases f with _ | _ <;> first | rfl | (exact absurd rfl (hna _ _ _))
  rw [he]
  refine zbn (ih _ _ _ _ _ _ _ _ h _ _ _ _ _ hA hS F) fun v s' K' x H' le hS' rv hr=>?_
  exact wpAny_mono (zf3 ih (pl:=[]) (pre:=[]) hst rv hr (by simp) zaf.nil hA hS' (F.le le)) (fun _ _ p=>p.up le) fun _ _ e=>e
end
section
variable {W:Wx} {rc:Rc} {d:Nat} {cx:Cx} {k:List I} {st:List V} {ρ:Ro} {H:Hp} {Q:Out→Prop} {A:Around} {s:Shared} {K X:Fz} {env:Env}
theorem zh5 {x:V} {v:Value} (hS:W.Sat K X H s) (n:zdp W H x) (r:Rep K x v):∃ T id,s.TypeIs v T∧typeLookup (.type T) "__getitem__"=pure (some (.builtin id)):=by
 rcases x with _ | _ <;> try exact n.elim
 ·obtain ⟨a,n,vs,rfl,e,_⟩:=Rep.tup_iff.mp r
  exact ⟨"tuple",_,(zdX (hS.keep _ _ e)).typeIs,slot_tuple_getitem.lookup⟩
 ·obtain rfl:=Rep.ref_iff.mp r
  obtain ⟨m,hm,hn⟩:=n
  obtain ⟨D,O⟩:=hS.objs
  have:=O.at_ _ _ hm
  induction m with
  | list l=>obtain ⟨vs,n,e,_⟩:=this; exact ⟨"list",_,(za2 e).typeIs,slot_list_getitem.lookup⟩
  | dict l=>obtain ⟨_,kvs,hd,_⟩:=this; exact ⟨"dict",_,hd.typeIs,PySem.slot_dict_getitem.lookup⟩
  | dictB l=>obtain ⟨_,kvs,hd,_⟩:=this; exact ⟨"dict",_,hd.typeIs,PySem.slot_dict_getitem.lookup⟩
  | inst C fs=>exact absurd rfl (hn C fs)
 ·obtain rfl:=Rep.raw_iff.mp r
  obtain ⟨a,vs,n,rfl,e⟩:=n
  exact ⟨"list",_,⟨_,hS.stays _ _ e,rfl⟩,slot_list_getitem.lookup⟩
theorem ziX (ih:SE W rc) {e:Option Expr} (h:Run W d (zcb rc cx e++k) st ρ H Q) (hA:zaw d A) (hS:W.Sat K X H s) (F:zau W K X cx env ρ):wpAny W.M A (valueOrNone (evalOpt e env)) (PR W d k st ρ Q K X) NoE s:=by
 induction e with
 | none =>
  unfold zcb at h
  rw [List.singleton_append] at h
  have h:=Run.iLit h
  exact wpAny_pure (zax hS (Rep.none_iff.mpr rfl) h)
 | some e=>exact ih _ _ _ _ _ _ _ _ h _ _ _ _ _ hA hS F
theorem zmr {t:Expr} (h:ze8 t=true):∃ l u s p,t=.Slice l u s p:=by
 rcases t with _ | _ <;> first | exact ff h | exact ⟨_,_,_,_,rfl⟩
theorem zoL (ih:SE W rc) {o i pos} (h:Run W d (zeN rc cx o i++k) st ρ H Q) (hA:zaw d A) (hS:W.Sat K X H s) (F:zau W K X cx env ρ) :
  wpAny W.M A (eval (.Subscript o i pos) env) (PR W d k st ρ Q K X) NoE s:=by
 refine Subscript_ ?_
 unfold zeN at h
 by_cases hn2:ze8 i=true
 ·obtain ⟨l,u,stp,p,rfl⟩:=zmr hn2
  rw [if_pos hn2] at h
  rcases stp with _ | stp
  rotate_left
  ·exact h.off
  replace h:Run W d (rc cx o++zcb rc cx l++zcb rc cx u++[.slc]++k) st ρ H Q:=h
  rw [List.append_assoc,List.append_assoc,List.append_assoc] at h
  refine wpAny_mono (ih _ _ _ _ _ _ _ _ h _ _ _ _ _ hA hS F) (fun ov s1 ⟨K1,x,H1,le1,hS1,rv,hr⟩=>?_) fun _ _ e=>e
  rw [arm_eval_Slice]
  refine zbn (ziX ih hr hA hS1 (F.le le1)) fun lv s2 K2 y H2 le2 hS2 rl hr=>?_
  refine wpAny_bind (wpAny_holding (wpAny_mono (ziX ih hr hA hS2 (F.le (le1.trans le2))) (fun uv s3 ⟨K3,z,H3,le3,hS3,ru,hr⟩=>?_) fun _ _ e=>e))
  refine wpAny_bind (wpAny_holding (wpAny_pure ?_))
  refine wpAny_newObj_type (s:=s3) (data:=.fields #[lv,uv,.none]) ?_ ?_
  ·obtain ⟨S4,le4⟩:=Sat.freeze hS3 (zfA lv uv) rfl (t:=s3.toks)
   obtain ⟨R,hop,hn,hk⟩:=Run.inv hr
   have le':=(le2.trans le3).trans le4
   obtain ⟨T,id,hT,hl⟩:=zh5 S4 hn (rv.le le')
   refine tail_any hT hl (wpAny_mono (hop A _ _ _ ov _ lv uv hA S4 (rv.le le') zai (rl.le (le3.trans le4)) (ru.le le4)) (fun r s'' p=>(p.up (le1.trans le')).mono hk) fun _ _ e=>e) rfl
  ·show (#[lv,uv,Value.none]:Array Value).size≤sizeLine+2
   rw [sizeLine_eq]; simp
 ·rw [if_neg hn2,List.append_assoc,List.append_assoc] at h
  refine wpAny_mono (ih _ _ _ _ _ _ _ _ h _ _ _ _ _ hA hS F) (fun ov s1 ⟨K1,x,H1,le1,hS1,rv,hr⟩=>?_) fun _ _ e=>e
  refine wpAny_mono (ih _ _ _ _ _ _ _ _ hr _ _ _ _ _ hA hS1 (F.le le1)) (fun iv s2 ⟨K2,y,H2,le2,hS2,ri,hr⟩=>?_) fun _ _ e=>e
  obtain ⟨R,hop,hn,hk⟩:=Run.inv hr
  obtain ⟨T,id,hT,hl⟩:=zh5 hS2 hn (rv.le le2)
  refine tail_any (ops:=[ov,iv]) hT hl (wpAny_mono (hop A s2 K2 _ [ov,iv] hA hS2 (zaf.cons (rv.le le2) (zaf.cons ri zaf.nil))) (fun r s'' p=>(p.up (le1.trans le2)).mono hk) fun _ _ e=>e) ?_
  rcases i with _ | _ <;> first | rfl | exact absurd rfl hn2
theorem ziZ (hS:W.Sat K X H s):s.heap.objs.size≠sysModules:=fun q=>by
 have:=modules_low (W.top.nolimit.keeps hS.stays)
 rw [q] at this
 exact Nat.lt_irrefl _ this
theorem zkC (e:List I):dictDisplay []=newDict:=by
 unfold dictDisplay
 rfl
theorem zh4 {o:Option Expr} {a:Str} (h:zdl o=some a):∃ kk pos,o=some (.Constant (.str a) kk pos):=by
 exact (Option.map_eq_some_iff.mp h).elim fun p q=>q.2 ▸ p.2
theorem zoF (ih:SE W rc) {ks vs pos} (h:Run W d (zeL rc cx ks vs++k) st ρ H Q) (hA:zaw d A) (hS:W.Sat K X H s) (F:zau W K X cx env ρ) :
  wpAny W.M A (eval (.Dict ks vs pos) env) (PR W d k st ρ Q K X) NoE s:=by
 rcases ks with _ | ⟨k1,_ | ⟨k2,_ | ⟨_,_⟩⟩⟩
 ·rcases vs with _ | ⟨_,_⟩
  rotate_left
  ·exact h.off
  have h:=Run.iD0 h
  rw [arm_eval_Dict]
  refine wpAny_bind (wpAny_standAt ?_)
  show wpAny _ _ (dictDisplay []) _ _ _
  rw [zkC []]
  refine wpAny_newObj_type (s:=s) (data:=.dict #[]) ?_ (by show (#[]:Array DictEntry).size≤_; simp)
  exact ⟨K,.ref s.heap.objs.size,_,Le.rfl,Sat.alloc hS { cls:=.type "dict",data:=.dict #[] } (.dict []) (fun _ _ e=>nomatch e) (fun D=>⟨ziZ hS,[],Heap.DictOf.new _,rfl⟩),Rep.ref_iff.mpr rfl,h _ (Sat.fresh hS).2.2⟩
 ·exact h.off
 ·unfold zeL at h
  dsimp only at h
  rcases h1:zdl k1 with _ | a <;> rw [h1] at h <;> dsimp only at h
  ·exact h.off
  rcases h2:zdl k2 with _ | b <;> rw [h2] at h <;> dsimp only at h
  ·exact h.off
  rcases vs with _ | ⟨x,_ | ⟨y,_ | ⟨_,_⟩⟩⟩
  ·exact h.off
  ·exact h.off
  rotate_left
  ·exact h.off
  obtain ⟨kk,p1,rfl⟩:=zh4 h1
  obtain ⟨kk',p2,rfl⟩:=zh4 h2
  simp only [List.append_assoc,List.singleton_append,List.cons_append,List.nil_append] at h
  have h:=Run.iLit h
  refine wpAny_Dict_pairs (knd:=strKind prg W.w) (pairs:=[(eval (.Constant (.str a) kk p1) env,do let v ← eval x env; standAt pos; pure v),(eval (.Constant (.str b) kk' p2) env,do let v ← eval y env; standAt pos; pure v)]) rfl (by simp) (by simp) ?_
  have lo:=ziZ hS
  have hfr:=Sat.fresh hS
  have leX:Le X (zab X s.heap.objs.size { cls:=.type "dict",data:=.dict #[] }):=zd0 hfr.2.1
  have S1:=Sat.hold hS { cls:=.type "dict",data:=.dict #[] } rfl (t:=s.toks)
  unfold evalPairs
  refine wpAny_bind (wpAny_Constant_str ?_)
  have S1':W.Sat K (zab X s.heap.objs.size { cls:=.type "dict",data:=.dict #[] }) H { heap:=s.heap.push { cls:=.type "dict",data:=.dict #[] },gens:=s.gens,drawn:=s.drawn,toks:=s.toks+1,os:=s.os }:=S1.of_heap rfl rfl rfl
  refine wpAny_bind (wpAny_holding (wpAny_bind (wpAny_mono (ih _ _ _ _ _ _ _ _ h _ _ _ _ _ hA S1' (F.leX leX)) (fun v s2 ⟨K2,x2,H2,le2,hS2,rv2,hr2⟩=>?_) fun _ _ e=>e)))
  refine wpAny_bind (wpAny_standAt (wpAny_pure ?_))
  have hr2:=Run.iLit hr2
  refine wpAny_bind (wpAny_holding ?_)
  unfold evalPairs
  refine wpAny_bind (wpAny_Constant_str ?_)
  have S2':W.Sat K2 _ H2 { s2 with toks:=s2.toks+1 }:=hS2.of_heap rfl rfl rfl
  refine wpAny_bind (wpAny_holding (wpAny_bind (wpAny_mono (ih _ _ _ _ _ _ _ _ hr2 _ _ _ _ _ hA S2' ((F.leX leX).le le2)) (fun v3 s3 ⟨K3,x3,H3,le3,hS3,rv3,hr3⟩=>?_) fun _ _ e=>e)))
  refine wpAny_bind (wpAny_standAt (wpAny_pure ?_))
  refine wpAny_bind (wpAny_holding ?_)
  unfold evalPairs
  refine wpAny_pure (wpAny_pure (wpAny_pure ?_))
  obtain ⟨hne,hr3⟩:=Run.iD4 hr3
  have kd:zab X s.heap.objs.size { cls:=.type "dict",data:=.dict #[] } s.heap.objs.size=some { cls:=.type "dict",data:=.dict #[] }:=zai
  have hd:s3.heap.get? s.heap.objs.size=some { cls:=.type "dict",data:=.dict #[] }:=hS3.keepX _ _ kd
  refine display_done_str (prog:=prg) (w:=W.w) rfl ?_ ⟨_,#[],0,hd,⟨rfl,rfl,rfl⟩,rfl,fun _ he=>by simp at he,Pairs.nil,List.nodup_nil⟩ fun h' hm hs=>?_
  ·show ([a,b]:List Str).Nodup
   simp [hne]
  ·have tt:=Sat.thaw hS3 kd leX hfr.2.1 (m:=.dict [(a,x2),(b,x3)]) (fun _ _ e=>nomatch e) hs (fun D=>⟨lo,_,hm,v,_,rfl,rv2.le le3,v3,_,rfl,rv3,rfl⟩) (t:=0)
   exact ⟨K3,.ref s.heap.objs.size,_,le2.trans le3,(Sat.thaw hS3 kd leX hfr.2.1 (m:=.dict [(a,x2),(b,x3)]) (fun _ _ e=>nomatch e) hs (fun D=>⟨lo,_,hm,v,_,rfl,rv2.le le3,v3,_,rfl,rv3,rfl⟩)).2,Rep.ref_iff.mpr rfl,hr3 _ tt.1⟩
 ·exact h.off
end
noncomputable def okT:Kd→Expr→Prop
 | .enum,t | .zip,t=>zcH t=true
 | _,_=>True
inductive zjG (W:Wx) (H:Hp) (l:List V) (F:Addr→Prop) (P:Nat→Fz→Fz→Prop) (i:Nat) (v:Value) (K X:Fz) (s':Shared):Prop
 | mk (K' X':Fz) (x:V) (hx:l[i]?=some x) (rv:Rep K' x v) (le:Le K K') (eX:∀ b,¬ F b→X' b=X b) (p:P (i+1) K' X') (hS:W.Sat K' X' H s')
inductive zjF (W:Wx) (H:Hp) (F:Addr→Prop) (K X:Fz) (r:Option Value) (s':Shared):Prop
 | mk (e:r=none) (X':Fz) (eX:∀ b,¬ F b→X' b=X b) (nX:∀ b,F b→X' b=none) (hS:W.Sat K X' H s')
structure Itr (W:Wx) (kd:Kd) (args l:List V) (I:Addr) (F:Addr→Prop) (P:Nat→Fz→Fz→Prop):Prop where
 loc:∀ i K X K' X',P i K X→Le K K'→(∀ b,F b→X' b=X b)→P i K' X'
 next:∀ A s K X H i t,A.handled=none→W.Sat K X H s→P i K X→Src H kd args l→i < l.length→okT kd t→wpAny W.M A (pyNext (.ref I)) (fun r s₁=>∃ v,r=some v ∧
  wpAny W.M A (letOwnedTupleGo t (.ref I) v) (fun _=>zjG W H l F P i v K X) NoE s₁) NoE s
 done:∀ A s K X H,A.handled=none→W.Sat K X H s→P l.length K X→Src H kd args l→wpAny W.M A (pyNext (.ref I)) (zjF W H F K X) NoE s
 has:∀ i K X b,P i K X→F b→∃ o,X b=some o
 nocell:∀ i K X b o v,P i K X→F b→X b=some o→o.data≠.cell v
 self:∀ A s K X H i (E:Value→Shared→Prop) (Q:Value→Shared→Prop),W.Sat K X H s→P i K X→Q (.ref I) s→wpAny W.M A (pyIter (.ref I)) Q E s
section
variable {W:Wx} {d:Nat} {H:Hp} {A:Around} {s:Shared} {K X:Fz}
noncomputable def ziu:List String:=["enumerate","zip","dict_itemiterator","dict_reverseitemiterator","odict_iterator","itertools.zip_longest","itertools.pairwise"]
theorem zfe {M:Model} {E:Value→Shared→Prop} {t:Expr} {I:Addr} {v:Value} {o:Obj} {T:String} {Q:Unit→Shared→Prop} (e:s.heap.get? I=some o) (hc:o.cls=.type T) (hT:ziu.contains T=false) (h:Q () s) :
  wpAny M A (letOwnedTupleGo t (.ref I) v) Q E s:=by
 obtain ⟨c,dd,dt,sl⟩:=o
 replace hc:c=.type T:=hc
 subst hc
 have key:wpAny M A (do
   let (.ref r,.ref a):=(Value.ref I,v) | return
   let o ← load r
   match o.cls,o.data with
   | .type n,.fields vs =>
    if ["enumerate","zip","dict_itemiterator","dict_reverseitemiterator","odict_iterator","itertools.zip_longest","itertools.pairwise"].contains n && vs[0]? == some (rawInt a) then
     rule "for.unpacks-the-owned-tuple"
     updateField r 0 .none
   | _,_=>pure ()) Q E s:=by
  rcases v with _ | _ <;> try exact wpAny_pure h
  refine wpAny_bind (wpAny_load e ?_)
  rcases dt with _ | _ <;> try exact wpAny_pure h
  rename_i a vs
  show wpAny _ _ (if (ziu.contains T && _)=true then _ else _) _ _ _
  rw [hT,Bool.false_and]
  exact wpAny_pure h
 rcases t with _ | _ <;> first | exact wpAny_pure h | exact key
inductive zfP (a I:Addr) (i:Nat) (K X:Fz):Prop
 | mk (o:Obj) (h1:X I=some o) (h2:o.cls=.type "list_iterator") (h3:o.data=.fields #[.ref a,.int i 0])
theorem zmu (a I:Addr) (l:List V):Itr W .plain [.ref a] l I (·=I) (zfP a I) where
 loc:=fun i K X K' X' ⟨o,h1,h2,h3⟩ _ e=>⟨o,(e I rfl).trans h1,h2,h3⟩
 has:=fun i K X b ⟨o,h1,_,_⟩ hb=>⟨o,hb ▸ h1⟩
 nocell:=fun i K X b o v ⟨o',h1,_,h3⟩ hb q e=>by subst hb; rw [h1] at q; (injection q with q; subst q); rw [h3] at e; injection e
 self:=fun A s K X H i E Q hS ⟨o,h1,h2,h3⟩ hQ=>wpAny_pyIter_listiter (s:=s) ⟨o,hS.keepX _ _ h1,h2,h3⟩ hQ
 next:=fun A s K X H i t hh hS ⟨o,h1,h2,h3⟩ hsrc hi _=>by
  have e:H a=some (.list l):=hsrc
  obtain ⟨vs,n,e1,r⟩:=hS.list e
  have hx:l[i]?=some l[i]:=List.getElem?_eq_getElem hi
  obtain ⟨v,hv,rv⟩:=r.get i hx
  refine wpAny_pyNext_list_item (s:=s) (l:=a) (i:=i) ⟨o,hS.keepX _ _ h1,h2,h3⟩ (za2 e1) (x:=v) (by simpa using hv) fun h' hit' hs'=>⟨v,rfl,?_⟩
  obtain ⟨o',g1,g2,g3⟩:=hit'
  refine zfe g1 g2 rfl ⟨K,zab X I o',_,hx,rv,Le.rfl,fun b hb=>zao hb,⟨o',zai,g2,g3⟩,Sat.change hS h1 hs' g1⟩
 done:=fun A s K X H hh hS ⟨o,h1,h2,h3⟩ hsrc=>by
  have e:H a=some (.list l):=hsrc
  obtain ⟨vs,n,e1,r⟩:=hS.list e
  refine wpAny_pyNext_list_end (s:=s) (l:=a) (i:=l.length) hh ⟨o,hS.keepX _ _ h1,h2,h3⟩ (za2 e1) (by have:=zaX r; rw [Array.getElem?_eq_none]; exact zad (.i (.e Va Vb) (.l Va Vb)) rfl this) fun h' hs'=>⟨rfl,fun b=>if b=I then none else X b,fun b hb=>if_neg hb,fun b hb=>if_pos hb,?_⟩
  refine Sat.ext hS (F:=(·=I)) (fun b hb=>⟨o,hb ▸ h1⟩) (fun b o' hb q=>hs' b o' hb q) Le.rfl (fun b o' q=>.inl q) fun b o' q=>?_
  have hb:b≠I:=fun z=>by rw [if_pos z] at q; injection q
  rw [if_neg hb] at q
  exact ⟨hS.apart _ _ q,hs' _ _ hb (hS.keepX _ _ q),.inl (za5 q)⟩
inductive PTup (l:List V) (I:Addr) (i:Nat) (K X:Fz):Prop
 | mk (a:Addr) (vs:Array Value) (n:Nat) (o:Obj) (h0:K a=some (zbf vs n)) (h00:zaf K l vs.toList) (h1:X I=some o) (h2:o.cls=.type "tuple_iterator") (h3:o.data=.fields #[.ref a,.int i 0])
theorem zmw (I:Addr) (l₀ l:List V):Itr W .plain [.tup l₀] l I (·=I) (PTup l I) where
 loc:=fun i K X K' X' ⟨a,vs,n,o,h0,h00,h1,h2,h3⟩ le e=>⟨a,vs,n,o,le _ _ h0,h00.le le,(e I rfl).trans h1,h2,h3⟩
 has:=fun i K X b ⟨a,vs,n,o,h0,h00,h1,_,_⟩ hb=>⟨o,hb ▸ h1⟩
 nocell:=fun i K X b o v ⟨a,vs,n,o',h0,h00,h1,_,h3⟩ hb q e=>by subst hb; rw [h1] at q; (injection q with q; subst q); rw [h3] at e; injection e
 self:=fun A s K X H i E Q hS ⟨a,vs,n,o,h0,h00,h1,h2,h3⟩ hQ=>wpAny_pyIter_tupleiter (s:=s) ⟨o,hS.keepX _ _ h1,h2,h3⟩ hQ
 next:=fun A s K X H i t hh hS ⟨a,vs,n,o,h0,r,h1,h2,h3⟩ hsrc hi _=>by
  have hx:l[i]?=some l[i]:=List.getElem?_eq_getElem hi
  obtain ⟨v,hv,rv⟩:=r.get i hx
  refine wpAny_pyNext_tuple_item (s:=s) (t:=a) (i:=i) ⟨o,hS.keepX _ _ h1,h2,h3⟩ ⟨_,hS.keep _ _ h0,rfl,_,rfl⟩ (x:=v) (by simpa using hv) fun h' hit' hs'=>⟨v,rfl,?_⟩
  obtain ⟨o',g1,g2,g3⟩:=hit'
  refine zfe g1 g2 rfl ⟨K,zab X I o',_,hx,rv,Le.rfl,fun b hb=>zao hb,⟨a,vs,n,o',h0,r,zai,g2,g3⟩,Sat.change hS h1 hs' g1⟩
 done:=fun A s K X H hh hS ⟨a,vs,n,o,h0,r,h1,h2,h3⟩ hsrc=>by
  refine wpAny_pyNext_tuple_end (s:=s) (t:=a) (i:=l.length) hh ⟨o,hS.keepX _ _ h1,h2,h3⟩ ⟨_,hS.keep _ _ h0,rfl,_,rfl⟩ (by have:=zaX r; rw [Array.getElem?_eq_none]; exact zad (.i (.e Va Vb) (.l Va Vb)) rfl this) fun h' hs'=>⟨rfl,fun b=>if b=I then none else X b,fun b hb=>if_neg hb,fun b hb=>if_pos hb,?_⟩
  refine Sat.ext hS (F:=(·=I)) (fun b hb=>⟨o,hb ▸ h1⟩) (fun b o' hb q=>hs' b o' hb q) Le.rfl (fun b o' q=>.inl q) fun b o' q=>?_
  have hb:b≠I:=fun z=>by rw [if_pos z] at q; injection q
  rw [if_neg hb] at q
  exact ⟨hS.apart _ _ q,hs' _ _ hb (hS.keepX _ _ q),.inl (za5 q)⟩
noncomputable abbrev rngO (x left step:Int):Obj:={ cls:=.type "range_iterator",dict:=none,data:=.fields #[rawInt x,rawInt left,rawInt step],slots:=#[] }
noncomputable def zdH (a c:Int) (n:Nat) (I:Addr) (i:Nat) (_ X:Fz):Prop:=X I=some (rngO (a+i * c) (n - i) c)
theorem zmv (I:Addr) (a c:Int) (n:Nat) (args:List V):Itr W .range args ((List.range n).map fun i=>.int (a+(i:Nat) * c)) I (·=I) (zdH a c n I) where
 loc:=fun i K X K' X' h1 _ e=>(e I rfl).trans h1
 has:=fun i K X b h1 hb=>⟨_,hb ▸ h1⟩
 nocell:=fun i K X b o v h1 hb q e=>by subst hb; rw [show X b=_ from h1] at q; (injection q with q; subst q); injection e
 self:=fun A s K X H i E Q hS h1 hQ=>wpAny_pyIter_rangeiter (s:=s) (hS.keepX _ _ h1) hQ
 next:=fun A s K X H i t hh hS h1 hsrc hi _=>by
  simp only [List.length_map,List.length_range] at hi
  refine wpAny_pyNext_range_item (s:=s) (hS.keepX _ _ h1) (zad (.i (.t Va Vb) (.T K0 (.s (.c Vb) (.c Va)))) rfl hi) fun h' hit' hs'=>⟨_,rfl,?_⟩
  refine zfe (s:={ s with heap:=h',toks:=s.toks+1 }) hit' rfl rfl ⟨K,zab X I _,.int (a+i * c),by simp [hi],Rep.int_iff.mpr ⟨_,rfl⟩,Le.rfl,fun b hb=>zao hb,?_,Sat.change hS h1 hs' hit'⟩
  have e1:a+((i+1:Nat):Int) * c=a+(i:Int) * c+c:=by push_cast; rw [Int.add_mul,Int.one_mul,Int.add_assoc]
  have e2:(n:Int) - ((i+1:Nat):Int)=(n:Int) - (i:Int) - 1:=by push_cast; exact zad (.E (.s (.c Va) (.a (.c Vb) K1)) (.s (.s (.c Va) (.c Vb)) K1)) rfl
  unfold zdH
  rw [e1,e2]
  exact zai
 done:=fun A s K X H hh hS h1 hsrc=>by
  simp only [List.length_map,List.length_range] at h1
  refine wpAny_pyNext_range_end (s:=s) hh (hS.keepX _ _ h1) (zag (.L (.s (.c Va) (.c Va)) K0) rfl) fun h' hs'=>⟨rfl,fun b=>if b=I then none else X b,fun b hb=>if_neg hb,fun b hb=>if_pos hb,?_⟩
  refine Sat.ext hS (F:=(·=I)) (fun b hb=>⟨_,hb ▸ h1⟩) (fun b o' hb q=>hs' b o' hb q) Le.rfl (fun b o' q=>.inl q) fun b o' q=>?_
  have hb:b≠I:=fun z=>by rw [if_pos z] at q; injection q
  rw [if_neg hb] at q
  exact ⟨hS.apart _ _ q,hs' _ _ hb (hS.keepX _ _ q),.inl (za5 q)⟩
end
section
variable {W:Wx} {d:Nat} {H:Hp} {A:Around} {s:Shared} {K X:Fz}
theorem zdY {t:Expr} (h:zcH t=true):∃ es k p,t=.Tuple es k p:=by
 rcases t with _ | _ <;> first | exact ff h | exact ⟨_,_,_,rfl⟩
noncomputable abbrev zeX (it:Addr) (i:Int) (old:Value):Obj:={ cls:=.type "enumerate",dict:=none,data:=.fields #[.none,.bool false,.ref it,rawInt i,.none,old],slots:=#[] }
noncomputable def PEnm (a e it:Addr) (i:Nat) (_ X:Fz):Prop:=e≠it∧(∃ old,X e=some (zeX it i old))∧∃ o,X it=some o∧o.cls=.type "list_iterator"∧o.data=.fields #[.ref a,.int i 0]
theorem neX {a b:Addr} {m:MO} (hS:W.Sat K X H s) (h:H a=some m) {o:Obj} (h':X b=some o):a≠b:=fun q=>by
 obtain ⟨D,O⟩:=hS.objs
 have:=(O.free _ _ h).2
 rw [q,h'] at this; injection this
theorem zmt (a e it:Addr) (l:List V):Itr W .enum [.ref a] l e (fun b=>b=e∨b=it) (PEnm a e it) where
 loc:=fun i K X K' X' ⟨h0,⟨old,h1⟩,o,h2,h3,h4⟩ _ q=>⟨h0,⟨old,(q e (.inl rfl)).trans h1⟩,o,(q it (.inr rfl)).trans h2,h3,h4⟩
 has:=fun i K X b ⟨h0,⟨old,h1⟩,o,h2,_⟩ hb=>hb.elim (fun q=>⟨_,q ▸ h1⟩) (fun q=>⟨_,q ▸ h2⟩)
 nocell:=fun i K X b o v ⟨h0,⟨old,h1⟩,o',h2,_,h4⟩ hb q e=>by
  rcases hb with rfl | rfl
  ·rw [h1] at q; (injection q with q; subst q); injection e
  ·rw [h2] at q; (injection q with q; subst q); rw [h4] at e; injection e
 self:=fun A s K X H i E Q hS ⟨h0,⟨old,h1⟩,_⟩ hQ=>wpAny_pyIter_enum (s:=s) (hS.keepX _ _ h1) hQ
 next:=fun A s K X H i t hh hS ⟨h0,⟨old,h1⟩,o,h2,h3,h4⟩ ⟨l₀,hl,e0⟩ hi ht=>by
  obtain ⟨es,kk,pp,rfl⟩:=zdY ht
  obtain ⟨vs,n,e1,r⟩:=hS.list hl
  subst e0
  simp only [List.length_map,List.length_zipIdx] at hi
  have hx:l₀[i]?=some l₀[i]:=List.getElem?_eq_getElem hi
  obtain ⟨v,hv,rv⟩:=r.get i hx
  have lte:@LT.lt Nat instLTNat e s.heap.objs.size:=ltS (hS.keepX _ _ h1)
  have lti:@LT.lt Nat instLTNat it s.heap.objs.size:=ltS (hS.keepX _ _ h2)
  refine wpAny_pyNext_enum_item (s:=s) (hS.keepX _ _ h1) (l:=a) ⟨o,hS.keepX _ _ h2,h3,h4⟩ (za2 e1) (x:=v) (by simpa using hv) h0 fun h₁ heo hit₁ ht₁ hz₁ hk₁=>⟨_,rfl,?_⟩
  refine wpAny_letOwnedTupleGo_enum (s:={ s with heap:=h₁,toks:=s.toks+1 }) heo fun h₂ he₂ hs₂=>?_
  replace hs₂:Heap.SameBut e h₁ h₂:=hs₂
  obtain ⟨o',g1,g2,g3⟩:=hit₁
  have ht₂:h₂.get? s.heap.objs.size=some { cls:=.type "tuple",data:=.seq #[.int i s.toks,v] }:=(hs₂.2 _ (Nat.ne_of_gt lte)).trans ht₁
  have hi₂:h₂.get? it=some o':=(hs₂.2 _ (Ne.symm h0)).trans g1
  have hfr:=Sat.fresh hS
  have le:Le K (zab K s.heap.objs.size { cls:=.type "tuple",data:=.seq #[.int i s.toks,v] }):=zd0 hfr.1
  refine ⟨zab K s.heap.objs.size { cls:=.type "tuple",data:=.seq #[.int i s.toks,v] },zab (zab X e (zeX it ((i:Int)+1) v)) it o',.tup [.int i,l₀[i]],?_,?_,le,?_,?_,?_⟩
  ·simp [hx]
  ·exact Rep.tup_iff.mpr ⟨_,0,#[.int i s.toks,v],rfl,zai,zaf.cons (Rep.int_iff.mpr ⟨_,rfl⟩) (zaf.cons (rv.le le) zaf.nil)⟩
  ·intro b hb
   rw [zao (fun q=>hb (.inr q)),zao (fun q=>hb (.inl q))]
  ·refine ⟨h0,⟨v,?_⟩,o',zai,g2,g3⟩
   rw [zao h0,zai]
   push_cast; rfl
  ·refine Sat.ext hS (F:=fun b=>b=e∨b=it) (fun b hb=>hb.elim (fun q=>⟨_,q ▸ h1⟩) (fun q=>⟨_,q ▸ h2⟩)) (fun b ob hb q=>?_) le (fun b ob q=>?_) fun b ob q=>?_
   ·exact hs₂.extBut b ob (fun z=>hb (.inl z)) (hk₁ b ob (fun z=>hb (.inl z)) (fun z=>hb (.inr z)) q)
   ·exact zbT (P:=fun b ob=>K b=some ob∨(@LE.le Nat instLENat _ b∧Heap.get? _ b=some ob)) (.inr ⟨Nat.le_refl _,ht₂⟩) (fun _ _=>.inl) b ob q
   ·unfold zab at q
    split at q
    ·rename_i z; (injection q with q; subst q); subst z
     exact ⟨by rw [zao (Nat.ne_of_lt lti)]; exact hS.apart _ _ h2,hi₂,.inl (za5 h2)⟩
    ·rename_i z
     split at q
     ·rename_i z'; (injection q with q; subst q); subst z'
      exact ⟨by rw [zao (Nat.ne_of_lt lte)]; exact hS.apart _ _ h1,he₂,.inl (za5 h1)⟩
     ·rename_i z'
      refine ⟨?_,hs₂.extBut b ob z' (hk₁ b ob z' z (hS.keepX _ _ q)),.inl (za5 q)⟩
      rw [zao]; · exact hS.apart _ _ q
      intro z2; subst z2; rw [hfr.2.1] at q; injection q
 done:=fun A s K X H hh hS ⟨h0,⟨old,h1⟩,o,h2,h3,h4⟩ ⟨l₀,hl,e0⟩=>by
  obtain ⟨vs,n,e1,r⟩:=hS.list hl
  subst e0
  simp only [List.length_map,List.length_zipIdx] at h1 h4
  refine wpAny_pyNext_enum_end (s:=s) hh (hS.keepX _ _ h1) (l:=a) ⟨o,hS.keepX _ _ h2,h3,h4⟩ (za2 e1) (by have:=zaX r; rw [Array.getElem?_eq_none]; exact zad (.i (.e Va Vb) (.l Va Vb)) rfl this) fun h' hs'=>⟨rfl,fun b=>if b=e∨b=it then none else X b,fun b hb=>if_neg hb,fun b hb=>if_pos hb,?_⟩
  refine Sat.ext hS (F:=fun b=>b=e∨b=it) (fun b hb=>hb.elim (fun q=>⟨_,q ▸ h1⟩) (fun q=>⟨_,q ▸ h2⟩)) (fun b o' hb q=>hs' b o' (fun z=>hb (.inr z)) q) Le.rfl (fun b o' q=>.inl q) fun b o' q=>?_
  have hb:¬ (b=e∨b=it):=fun z=>by rw [if_pos z] at q; injection q
  rw [if_neg hb] at q
  exact ⟨hS.apart _ _ q,hs' _ _ (fun z=>hb (.inr z)) (hS.keepX _ _ q),.inl (za5 q)⟩
noncomputable abbrev zipO (TI TO:Addr):Obj:={ cls:=.type "zip",dict:=none,data:=.fields #[.none,.bool false,.bool false,.ref TI,.ref TO],slots:=#[] }
noncomputable abbrev zbS (a b:Value):Obj:={ cls:=.type "tuple",data:=.seq #[a,b] }
structure zcO (a b z TI TO i1 i2:Addr) (i:Nat) (K X:Fz):Prop where
 ap:TI≠z∧TO≠z∧i1≠z∧i2≠z∧TI≠TO∧TI≠i1∧TI≠i2∧TO≠i1∧TO≠i2∧i1≠i2
 hz:X z=some (zipO TI TO)
 hTI:X TI=some (zbS (.ref i1) (.ref i2))
 hTO:∃ x y,X TO=some (zbS x y)
 h1:∃ o,X i1=some o∧o.cls=.type "list_iterator"∧o.data=.fields #[.ref a,.int i 0]
 h2:∃ o,X i2=some o∧o.cls=.type "list_iterator"∧o.data=.fields #[.ref b,.int i 0]
noncomputable def zcM (z TI TO i1 i2:Addr) (b:Addr):Prop:=b=z∨b=TI∨b=TO∨b=i1∨b=i2
theorem zcO.has {a b z TI TO i1 i2:Addr} {i:Nat} (p:zcO a b z TI TO i1 i2 i K X) {c:Addr} (h:zcM z TI TO i1 i2 c):∃ o,X c=some o:=by
 rcases h with rfl | rfl | rfl | rfl | rfl
 ·exact ⟨_,p.hz⟩
 ·exact ⟨_,p.hTI⟩
 ·obtain ⟨x,y,q⟩:=p.hTO; exact ⟨_,q⟩
 ·obtain ⟨o,q,_⟩:=p.h1; exact ⟨_,q⟩
 ·obtain ⟨o,q,_⟩:=p.h2; exact ⟨_,q⟩
theorem zcO.apart {a b z TI TO i1 i2:Addr} {i:Nat} (p:zcO a b z TI TO i1 i2 i K X) (hS:W.Sat K X H s) {m m':MO} (h1:H a=some m) (h2:H b=some m'):ZipApart z TI TO i1 i2 a b:=by
 obtain ⟨b1,b2,b3,b4,b5,b6,b7,b8,b9,b10⟩:=p.ap
 have nn:∀ {c m},H c=some m→∀ x,zcM z TI TO i1 i2 x→c≠x:=fun hc x hx=>by obtain ⟨o,q⟩:=p.has hx; exact neX hS hc q
 exact ⟨b1,b2,b3,b4,b5,b6,b7,b8,b9,b10,nn h1 _ (.inl rfl),nn h1 _ (.inr (.inr (.inl rfl))),nn h1 _ (.inr (.inr (.inr (.inl rfl)))),nn h1 _ (.inr (.inr (.inr (.inr rfl)))),
  nn h2 _ (.inl rfl),nn h2 _ (.inr (.inr (.inl rfl))),nn h2 _ (.inr (.inr (.inr (.inl rfl)))),nn h2 _ (.inr (.inr (.inr (.inr rfl))))⟩
theorem zmx (a b z TI TO i1 i2:Addr) (l:List V):Itr W .zip [.ref a,.ref b] l z (zcM z TI TO i1 i2) (zcO a b z TI TO i1 i2) where
 loc:=fun i K X K' X' p _ q=>by
  obtain ⟨x,y,e1⟩:=p.hTO
  obtain ⟨o1,e2,e3⟩:=p.h1
  obtain ⟨o2,e4,e5⟩:=p.h2
  exact ⟨p.ap,(q _ (.inl rfl)).trans p.hz,(q _ (.inr (.inl rfl))).trans p.hTI,⟨x,y,(q _ (.inr (.inr (.inl rfl)))).trans e1⟩,⟨o1,(q _ (.inr (.inr (.inr (.inl rfl))))).trans e2,e3⟩,⟨o2,(q _ (.inr (.inr (.inr (.inr rfl))))).trans e4,e5⟩⟩
 has:=fun i K X b p hb=>p.has hb
 nocell:=fun i K X b o v p hb q e=>by
  obtain ⟨x,y,hTO⟩:=p.hTO
  obtain ⟨o1,q1,_,q1'⟩:=p.h1
  obtain ⟨o2,q2,_,q2'⟩:=p.h2
  rcases hb with rfl | rfl | rfl | rfl | rfl
  ·rw [p.hz] at q; (injection q with q; subst q); injection e
  ·rw [p.hTI] at q; (injection q with q; subst q); injection e
  ·rw [hTO] at q; (injection q with q; subst q); injection e
  ·rw [q1] at q; (injection q with q; subst q); rw [q1'] at e; injection e
  ·rw [q2] at q; (injection q with q; subst q); rw [q2'] at e; injection e
 self:=fun A s K X H i E Q hS p hQ=>wpAny_pyIter_zip (s:=s) (hS.keepX _ _ p.hz) hQ
 next:=fun A s K X H i t hh hS p ⟨l₁,l₂,hl1,hl2,e0⟩ hi ht=>by
  obtain ⟨es,kk,pp,rfl⟩:=zdY ht
  obtain ⟨vs1,n1,e1,r1⟩:=hS.list hl1
  obtain ⟨vs2,n2,e2,r2⟩:=hS.list hl2
  subst e0
  simp only [List.length_zipWith] at hi
  have hx1:l₁[i]?=some (l₁[i]'(zaj (.i (.t Va (.m Vb Vc)) (.t Va Vb)) rfl hi)):=List.getElem?_eq_getElem _
  have hx2:l₂[i]?=some (l₂[i]'(zaj (.i (.t Va (.m Vb Vc)) (.t Va Vc)) rfl hi)):=List.getElem?_eq_getElem _
  obtain ⟨v1,hv1,rv1⟩:=r1.get i hx1
  obtain ⟨v2,hv2,rv2⟩:=r2.get i hx2
  have D:=p.apart hS hl1 hl2
  obtain ⟨x,y,hTO⟩:=p.hTO
  obtain ⟨o1,q1,q1'⟩:=p.h1
  obtain ⟨o2,q2,q2'⟩:=p.h2
  have lt:∀ {c o},X c=some o→@LT.lt Nat instLTNat c s.heap.objs.size:=fun h=>ltS (hS.keepX _ _ h)
  refine wpAny_pyNext_zip_item (s:=s) D (hS.keepX _ _ p.hz) (hS.keepX _ _ p.hTI) (hS.keepX _ _ hTO) ⟨o1,hS.keepX _ _ q1,q1'⟩ ⟨o2,hS.keepX _ _ q2,q2'⟩ (za2 e1) (za2 e2) (x:=v1) (y:=v2) (by simpa using hv1) (by simpa using hv2)
   fun h₁ a1 a2 a3 a4 a5 a6 hk=>⟨_,rfl,?_⟩
  refine wpAny_letOwnedTupleGo_zip (s:={ s with heap:=h₁ }) a1 fun h₂ hz₂ hs₂=>?_
  replace hs₂:Heap.SameBut z h₁ h₂:=hs₂
  obtain ⟨o1',g1,g1'⟩:=a3.extBut hs₂.extBut D.i1z
  obtain ⟨o2',g2,g2'⟩:=a4.extBut hs₂.extBut D.i2z
  have gTO:h₂.get? TO=some (zbS v1 v2):=hs₂.extBut _ _ D.TOz a2
  have gT:h₂.get? s.heap.objs.size=some (zbS v1 v2):=hs₂.extBut _ _ (Nat.ne_of_gt (lt p.hz)) a5
  have gTI:h₂.get? TI=some (zbS (.ref i1) (.ref i2)):=hs₂.extBut _ _ D.TIz (hk _ _ D.TIz D.TITO D.TIi1 D.TIi2 (hS.keepX _ _ p.hTI))
  have hfr:=Sat.fresh hS
  have le:Le K (zab K s.heap.objs.size (zbS v1 v2)):=zd0 hfr.1
  have kn:∀ {c o},X c=some o→zab K s.heap.objs.size (zbS v1 v2) c=none:=fun h=>by rw [zao (Nat.ne_of_lt (lt h))]; exact hS.apart _ _ h
  refine ⟨zab K s.heap.objs.size (zbS v1 v2),zab (zab (zab X i1 o1') i2 o2') TO (zbS v1 v2),.tup [l₁[i]'(zaj (.i (.t Va (.m Vb Vc)) (.t Va Vb)) rfl hi),l₂[i]'(zaj (.i (.t Va (.m Vb Vc)) (.t Va Vc)) rfl hi)],?_,?_,le,?_,?_,?_⟩
  ·rw [List.getElem?_zipWith,hx1,hx2]
  ·exact Rep.tup_iff.mpr ⟨_,0,#[v1,v2],rfl,zai,zaf.cons (rv1.le le) (zaf.cons (rv2.le le) zaf.nil)⟩
  ·intro c hc
   rw [zao (fun q=>hc (.inr (.inr (.inl q)))),zao (fun q=>hc (.inr (.inr (.inr (.inr q))))),zao (fun q=>hc (.inr (.inr (.inr (.inl q)))))]
  ·refine ⟨p.ap,?_,?_,⟨v1,v2,zai⟩,⟨o1',?_,g1'⟩,⟨o2',?_,g2'⟩⟩
   ·rw [zao D.TOz.symm,zao D.i2z.symm,zao D.i1z.symm]; exact p.hz
   ·rw [zao D.TITO,zao D.TIi2,zao D.TIi1]; exact p.hTI
   ·rw [zao D.TOi1.symm,zao D.i12,zai]
   ·rw [zao D.TOi2.symm,zai]
  ·refine Sat.ext hS (F:=zcM z TI TO i1 i2) (fun c hc=>p.has hc) (fun c oc hc q=>?_) le (fun c oc q=>?_) (fun c oc q=>?_) (t:=s.toks)
   ·exact hs₂.extBut c oc (fun q=>hc (.inl q)) (hk c oc (fun q=>hc (.inl q)) (fun q=>hc (.inr (.inr (.inl q)))) (fun q=>hc (.inr (.inr (.inr (.inl q))))) (fun q=>hc (.inr (.inr (.inr (.inr q))))) q)
   ·exact zbT (P:=fun c oc=>K c=some oc∨(@LE.le Nat instLENat _ c∧Heap.get? _ c=some oc)) (.inr ⟨Nat.le_refl _,gT⟩) (fun _ _=>.inl) c oc q
   ·unfold zab at q
    split at q
    ·rename_i z'; (injection q with q; subst q); subst z'; exact ⟨kn hTO,gTO,.inl (za5 hTO)⟩
    split at q
    ·rename_i z'; (injection q with q; subst q); subst z'; exact ⟨kn q2,g2,.inl (za5 q2)⟩
    split at q
    ·rename_i z'; (injection q with q; subst q); subst z'; exact ⟨kn q1,g1,.inl (za5 q1)⟩
    rename_i z1 z2 z3
    refine ⟨kn q,?_,.inl (za5 q)⟩
    by_cases z4:c=z
    ·subst z4; rw [p.hz] at q; (injection q with q; subst q); exact hz₂
    ·exact hs₂.extBut c oc z4 (hk c oc z4 z1 z3 z2 (hS.keepX _ _ q))
 done:=fun A s K X H hh hS p ⟨l₁,l₂,hl1,hl2,e0⟩=>by
  obtain ⟨vs1,n1,e1,r1⟩:=hS.list hl1
  obtain ⟨vs2,n2,e2,r2⟩:=hS.list hl2
  subst e0
  have D:=p.apart hS hl1 hl2
  have p':=p
  simp only [List.length_zipWith] at p'
  obtain ⟨x,y,hTO⟩:=p'.hTO
  obtain ⟨o1,q1,q1'⟩:=p'.h1
  obtain ⟨o2,q2,q2'⟩:=p'.h2
  have s1:=zaX r1
  have s2:=zaX r2
  refine wpAny_pyNext_zip_end (s:=s) hh D (hS.keepX _ _ p.hz) (hS.keepX _ _ p.hTI) (hS.keepX _ _ hTO) ⟨o1,hS.keepX _ _ q1,q1'⟩ ⟨o2,hS.keepX _ _ q2,q2'⟩ (za2 e1) (za2 e2) ?_ fun h' hk=>⟨rfl,fun c=>if c=z∨c=TI∨c=TO∨c=i1∨c=i2 then none else X c,fun c hc=>if_neg hc,fun c hc=>if_pos hc,?_⟩
  ·rw [Array.getElem?_eq_none_iff,Array.getElem?_eq_none_iff]; exact zaG (.i (.e Va Vb) (.i (.e Vc Vd) (.O (.l Va (.m Vb Vd)) (.l Vc (.m Vb Vd))))) rfl s1 s2
  refine Sat.ext hS (F:=zcM z TI TO i1 i2) (fun c hc=>p.has hc) (fun c oc hc q=>?_) Le.rfl (fun b o' q=>.inl q) (fun c oc q=>?_) (t:=s.toks)
  ·exact hk c oc (fun q=>hc (.inl q)) (fun q=>hc (.inr (.inr (.inl q)))) (fun q=>hc (.inr (.inr (.inr (.inl q))))) (fun q=>hc (.inr (.inr (.inr (.inr q))))) q
  have hb:¬ (c=z∨c=TI∨c=TO∨c=i1∨c=i2):=fun z=>by rw [if_pos z] at q; injection q
  rw [if_neg hb] at q
  exact ⟨hS.apart _ _ q,hk c oc (fun q=>hb (.inl q)) (fun q=>hb (.inr (.inr (.inl q)))) (fun q=>hb (.inr (.inr (.inr (.inl q))))) (fun q=>hb (.inr (.inr (.inr (.inr q))))) (hS.keepX _ _ q),.inl (za5 q)⟩
end
section
variable {W:Wx} {rc:Rc} {d:Nat} {cx:Cx} {k:List I} {st:List V} {ρ:Ro} {H:Hp} {Q:Out→Prop} {A:Around} {s:Shared} {K X:Fz} {env:Env}
theorem zaZ.step {m m':Str→Option Value} {X':Fz} {x:Str} {y:Option V} (hm:m' x=m x) (hX:∀ c oc v,X c=some oc→oc.data=.cell v→X' c=some oc) (h:zaZ K X env m x y):zaZ K X' env m' x y:=by
 induction y with
 | none=>trivial
 | some y =>
  unfold zaZ at h ⊢
  induction q:env.scope.names.lookup x with
  | none=>rw [q] at h; exact h
  | some kd =>
   rw [q] at h
   induction kd with
   | «local»=>obtain ⟨v,a,b⟩:=h; exact ⟨v,hm.trans a,b⟩
   | cell=>obtain ⟨c,oc,v,a,b,e,r⟩:=h; exact ⟨c,oc,v,a,hX _ _ _ b e,e,r⟩
   | free=>obtain ⟨c,oc,v,a,b,e,r⟩:=h; exact ⟨c,oc,v,a,hX _ _ _ b e,e,r⟩
   | globalExplicit=>exact h
   | globalImplicit=>exact h
inductive AT (W:Wx) (d:Nat) (k:List I) (cx:Cx) (env:Env) (st:List V) (Q:Out→Prop) (K X:Fz) (s':Shared):Prop
 | mk (K' X':Fz) (H':Hp) (ρ':Ro) (le:Le K K') (eX:∀ b,b≠env.locals→X' b=X b) (hS:W.Sat K' X' H' s') (F:zau W K' X' cx env ρ') (h:Run W d k st ρ' H' Q)
theorem zau.hp (F:zau W K X cx env ρ):(env.scope.kind == .class || (env.scope.kind == .module && env.locals != env.globals))=false:=by rw [F.kind]; rfl
theorem zm2 {l:List Str} (h:l.Nodup) {i j:Nat} {x y:Str} (hi:l[i]?=some x) (hj:l[j]?=some y) (ne:i≠j):y≠x:=fun q=>by
 subst q
 obtain ⟨li,ei⟩:=List.getElem?_eq_some_iff.mp hi
 exact ne ((List.getElem?_inj li h).mp (hi.trans hj.symm))
theorem zdM {x:Str} {i:Nat} {y:V} {v:Value} {Q':Unit→Shared→Prop} (hx:cx.names.lookup x=some .local) (hi:place? cx.vars x=some i) (rv:Rep K y v) (hS:W.Sat K X H s) (F:zau W K X cx env ρ)
  (h:∀ s' X',(∀ b,b≠env.locals→X' b=X b)→W.Sat K X' H s'→zau W K X' cx env (ρ.set i (some y))→Q' () s'):wpAny W.M A (storeName env x v) Q' NoE s:=by
 have el:env.scope.names.lookup x=some .local:=((F.names x).resolve_right fun q=>by rw [hx] at q; cases q.1).trans hx
 obtain ⟨m,⟨o,es,ep,h1,h2,h3,h4⟩,hm⟩:=F.ns
 refine wpAny_storeName_local el ⟨o,es,ep,hS.keepX _ _ h1,h2,h3,h4⟩ (fun h' hn hs=>?_) F.hp
 obtain ⟨o',es',ep',g1,g2,g3,g4⟩:=hn
 refine h _ (zab X env.locals o') (fun b hb=>zao hb) (Sat.change hS h1 hs g1) ⟨F.names,F.kind,F.glob,F.blt,F.nd,by rw [List.length_set]; exact F.len,⟨_,⟨o',es',ep',zai,g2,g3,g4⟩,fun j z hz=>?_⟩,F.base⟩
 have cellX:∀ c oc w,X c=some oc→oc.data=.cell w→zab X env.locals o' c=some oc:=fun c oc w e e2=>by
  rw [zao]; · exact e
  intro q; subst q; rw [h1] at e; (injection e with e; subst e); rw [h2] at e2; injection e2
 by_cases hj:i=j
 ·subst hj
  rw [zcf hi] at hz; (injection hz with hz; subst hz)
  have hl:i < ρ.length:=by rw [F.len]; exact (List.getElem?_eq_some_iff.mp (zcf hi)).1
  rw [List.getElem?_set_self hl]
  show zaZ _ _ _ _ _ (some y)
  unfold zaZ
  rw [el]
  exact ⟨v,if_pos rfl,rv⟩
 ·rw [List.getElem?_set_ne hj]
  exact (hm j z hz).step (if_neg (zm2 F.nd (zcf hi) hz hj)) cellX
theorem AT.up {K' X':Fz} (h:Le K K') (e:∀ b,b≠env.locals→X' b=X b) (p:AT W d k cx env st Q K' X' s):AT W d k cx env st Q K X s:=
 let ⟨K2,X2,H2,ρ2,a,b,c,f,g⟩:=p; ⟨K2,X2,H2,ρ2,h.trans a,fun y hy=>(b y hy).trans (e y hy),c,f,g⟩
theorem zen:∀ {es:List Expr},es.any zbV=false→(assignEach es env)=es.map fun t=>(false,assign t env)
 | [],_=>rfl
 | t::es,h=>by
  simp only [List.any_cons,Bool.or_eq_false_iff] at h
  have:assignEach (t::es) env=(false,assign t env)::assignEach es env:=by
   rcases t with _ | _ <;> first | rfl | exact tf h.1
  rw [this,zen h.2]; rfl
theorem zkE {es:List Expr}:(es.map fun t=>(false,assign t env)).map (·.2)=es.map fun t=>assign t env:=by rw [List.map_map]; rfl
theorem zkD:∀ {es:List Expr},(es.map fun t=>(false,assign t env)).findIdx? (·.1)=none
 | []=>rfl
 | t::es=>by simp [List.findIdx?_cons]
theorem zjU {cd:Expr→List I} {T:List Expr} (hh:zaw d A) (one:∀ t ∈ T,∀ {x v st ρ H k} {K X:Fz} {s:Shared},Run W d (cd t++k) (x::st) ρ H Q→Rep K x v→W.Sat K X H s→zau W K X cx env ρ→wpAny W.M A (assign t env v) (fun _ s'=>AT W d k cx env st Q K X s') NoE s) :
  ∀ {es:List Expr} {l:List V} {vs:List Value} {ρ H} {K X:Fz} {s:Shared},(∀ t ∈ es,t ∈ T)→l.length=es.length→Run W d (es.flatMap cd++k) (l++st) ρ H Q→zaf K l vs→W.Sat K X H s→zau W K X cx env ρ →
   wpAny W.M A (assignInOrder (es.map fun t=>assign t env) vs) (fun _ s'=>AT W d k cx env st Q K X s') NoE s:=by
 intro es
 induction es with
 | nil =>
  intro l vs ρ H K X s _ hl h r hS F
  obtain rfl:=List.eq_nil_of_length_eq_zero hl
  rw [zaf.nil_iff.mp r]
  exact wpAny_pure ⟨K,X,H,ρ,Le.rfl,fun _ _=>rfl,hS,F,h⟩
 | cons t es ih =>
  intro l vs ρ H K X s hT hl h r hS F
  induction l using List.casesOn with
  | nil=>injection hl
  | cons x l =>
   obtain ⟨v,r',rfl,rv,rr⟩:=zaf.cons_iff.mp r
   rw [List.flatMap_cons,List.append_assoc] at h
   refine wpAny_bind (wpAny_holding (wpAny_mono (one t (hT t (.head _)) h rv hS F) (fun _ s' p=>?_) fun _ _ e=>e))
   obtain ⟨K',X',H',ρ',le,eX,hS',F',h'⟩:=p
   exact wpAny_mono (ih (fun t ht=>hT t (.tail _ ht)) (Nat.succ.inj hl) h' (rr.le le) hS' F') (fun _ _ p=>p.up le eX) fun _ _ e=>e
theorem zfW {cd:Expr→List I} {es:List Expr} {kk pos} {x:V} {v:Value} (hA:zaw d A) (hst:es.any zbV=false)
  (one:∀ t ∈ es,∀ {x v st ρ H k} {K X:Fz} {s:Shared},Run W d (cd t++k) (x::st) ρ H Q→Rep K x v→W.Sat K X H s→zau W K X cx env ρ→wpAny W.M A (assign t env v) (fun _ s'=>AT W d k cx env st Q K X s') NoE s)
  (h:Run W d (.unp es.length::es.flatMap cd++k) (x::st) ρ H Q) (rv:Rep K x v) (hS:W.Sat K X H s) (F:zau W K X cx env ρ) :
  wpAny W.M A (assign (.Tuple es kk pos) env v) (fun _ s'=>AT W d k cx env st Q K X s') NoE s:=by
 rw [List.cons_append] at h
 obtain ⟨l,rfl,hl,hq⟩:=Run.inv h
 obtain ⟨a,n,vs,rfl,e1,r⟩:=Rep.tup_iff.mp rv
 refine wpAny_assign_Tuple hA.handled ⟨_,hS.keep _ _ e1,rfl,_,rfl⟩ (by rw [zen hst,List.length_map,zaX r,hl]) (by rw [zen hst]; exact zkD) fun h' hx=>?_
 rw [zen hst,zkE]
 have S':W.Sat K X H { s with heap:=h' }:=by
  refine Sat.ext hS (F:=fun _=>False) (fun _ f=>f.elim) (fun b o _ q=>hx b o (Nat.ne_of_lt (ltS q)) q) Le.rfl (fun b o q=>.inl q) (fun b o q=>⟨hS.apart _ _ q,hx b o (Nat.ne_of_lt (ltS (hS.keepX _ _ q))) (hS.keepX _ _ q),.inl (za5 q)⟩) (t:=s.toks)
 exact zjU hA one (fun t ht=>ht) hl hq r S' F
theorem zdL (hA:zaw d A):∀ (n:Nat) {t:Expr} {x v st ρ H k} {K X:Fz} {s:Shared},Run W d (zbi n cx t++k) (x::st) ρ H Q→Rep K x v→W.Sat K X H s→zau W K X cx env ρ →
  wpAny W.M A (assign t env v) (fun _ s'=>AT W d k cx env st Q K X s') NoE s
 | 0,t,x,v,st,ρ,H,k,K,X,s,h,_,_,_=>by unfold zbi at h; exact h.off
 | n+1,t,x,v,st,ρ,H,k,K,X,s,h,rv,hS,F=>by
  rcases t with _ | _ <;> try exact h.off
  ·rename_i x p
   replace h:Run W d ((if cx.names.lookup x == some .local then (match place? cx.vars x with | some i=>[.sto i] | none=>[.bad]) else [.bad])++k) _ ρ H Q:=h
   by_cases hx:(cx.names.lookup x == some .local)=true
   ·rw [if_pos hx] at h
    rcases hi:place? cx.vars x with _ | i <;> rw [hi] at h
    ·exact h.off
    obtain ⟨hlt,h⟩:=Run.inv h
    exact wpAny_assign_Name (zdM (beq_iff_eq.mp hx) hi rv hS F fun s' X' eX hS' F'=>⟨K,X',H,_,Le.rfl,eX,hS',F',h⟩)
   ·rw [if_neg hx] at h; exact h.off
  ·rename_i es kk p
   replace h:Run W d ((if es.any zbV then [.bad] else .unp es.length::es.flatMap (zbi n cx))++k) _ ρ H Q:=h
   by_cases hst:es.any zbV=true
   ·rw [if_pos hst] at h; exact h.off
   ·rw [if_neg hst] at h
    exact zfW hA (by simpa using hst) (fun t _=>zdL hA n) h rv hS F
end
section
variable {W:Wx} {rc:Rc} {d:Nat} {cx:Cx} {k:List I} {st:List V} {ρ:Ro} {H:Hp} {Q:Out→Prop} {A:Around} {s:Shared} {K X:Fz} {env:Env}
inductive zcj (W:Wx) (kd:Kd) (G:List V→Hp→List V→Prop) (K X:Fz) (v:Value) (s':Shared):Prop
 | mk (K' X':Fz) (H':Hp) (args l:List V) (I:Addr) (F:Addr→Prop) (P:Nat→Fz→Fz→Prop) (e:v=.ref I) (le:Le K K') (hS:W.Sat K' X' H' s') (h1:∀ b,¬ F b→X' b=X b) (h2:∀ b,F b→X b=none)
  (src:Src H' kd args l) (g:G args H' l) (it:Itr W kd args l I F P) (p:P 0 K' X')
theorem zcj.up {kd:Kd} {G:List V→Hp→List V→Prop} {K':Fz} {v:Value} (h:Le K K') (p:zcj W kd G K' X v s):zcj W kd G K X v s:=
 by
 obtain ⟨K2,X2,H2,args,l,I,F,P,a,b,h1,h2,h3,h4,h5,h6,h7⟩:=p
 exact ⟨K2,X2,H2,args,l,I,F,P,a,h.trans b,h1,h2,h3,h4,h5,h6,h7⟩
theorem zjY {G:List V→Hp→List V→Prop} {x:V} {v:Value} {l:List V} (hS:W.Sat K X H s) (rv:Rep K x v) (hs:Src H .plain [x] l) (hG:G [x] H l):wpAny W.M A (pyIter v) (fun it s'=>zcj W .plain G K X it s') NoE s:=by
 have hfr:=Sat.fresh hS
 rcases x with _ | _ <;> try exact hs.elim
 ·rename_i l₀
  have hs':l₀=l:=hs
  obtain ⟨a,n,vs,rfl,e1,r⟩:=Rep.tup_iff.mp rv
  refine wpAny_pyIter_tuple (s:=s) ⟨_,hS.keep _ _ e1,rfl,n,rfl⟩ ?_
  refine ⟨K,_,H,_,l,_,(·=s.heap.objs.size),PTup l s.heap.objs.size,rfl,Le.rfl,Sat.hold hS _ rfl (t:=s.toks),fun b hb=>zao hb,fun b hb=>by rw [hb]; exact hfr.2.1,hs,hG,zmw _ _ _,⟨a,vs,n,_,e1,by rw [← hs']; exact r,zai,rfl,rfl⟩⟩
 ·rename_i a
  obtain rfl:=Rep.ref_iff.mp rv
  have e:H a=some (.list l):=hs
  obtain ⟨vs,n,e1,r⟩:=hS.list e
  refine wpAny_pyIter_list (s:=s) (za2 e1) ?_
  refine ⟨K,_,H,_,l,_,(·=s.heap.objs.size),zfP a s.heap.objs.size,rfl,Le.rfl,Sat.hold hS _ rfl (t:=s.toks),fun b hb=>zao hb,fun b hb=>by rw [hb]; exact hfr.2.1,hs,hG,zmu _ _ _,⟨_,zai,rfl,rfl⟩⟩
theorem zjZ {G:List V→Hp→List V→Prop} {args l:List V} {r:Addr} {a b c:Int} {t u v:Tok} {n:Nat} (hS:W.Sat K X H s) (hr:X r=some { cls:=.type "range",dict:=none,data:=.fields #[.int a t,.int b u,.int c v],slots:=#[] })
  (hsm:Builtin.Range.small a b c=true) (hn:Builtin.Range.rangeSize a b c=n) (hl:l=(List.range n).map fun i=>.int (a+(i:Nat) * c)) (hs:Src H .range args l) (hG:G args H l) :
  wpAny W.M A (pyIter (.ref r)) (fun it s'=>zcj W .range G K X it s') NoE s:=by
 have hfr:=Sat.fresh hS
 refine wpAny_pyIter_range (s:=s) (hS.keepX _ _ hr) hsm ?_
 refine ⟨K,_,H,args,l,_,(·=s.heap.objs.size),zdH a c n s.heap.objs.size,rfl,Le.rfl,Sat.hold hS _ rfl (t:=s.toks),fun b hb=>zao hb,fun b hb=>by rw [hb]; exact hfr.2.1,hs,hG,by rw [hl]; exact zmv _ _ _ _ _,?_⟩
 unfold zdH
 rw [zai,hn]
 simp
theorem zjX {G:List V→Hp→List V→Prop} {kd:Kd} {args l:List V} {vs:List Value} {f:Value} (hf:(kd=.range∧f=.type "range")∨(kd=.enum∧f=.type "enumerate")∨(kd=.zip∧f=.type "zip"))
  (hS:W.Sat K X H s) (r:zaf K args vs) (hs:Src H kd args l) (hG:G args H l):wpAny W.M A (PySem.call f vs) (fun v s₁=>wpAny W.M A (pyIter v) (fun it s'=>zcj W kd G K X it s') NoE s₁) NoE s:=by
 have hfr:=Sat.fresh hS
 have rng:∀ {a b c:Int} {t u v:Tok} {n:Nat} {tk:Nat},kd=.range→Builtin.Range.small a b c=true→Builtin.Range.rangeSize a b c=n→l=(List.range n).map (fun i=>.int (a+(i:Nat) * c)) →
   wpAny W.M A (pyIter (.ref s.heap.objs.size)) (fun it s'=>zcj W kd G K X it s') NoE { s with heap:=s.heap.push { cls:=.type "range",data:=.fields #[.int a t,.int b u,.int c v] },toks:=tk }:=by
  intro a b c t u v n tk hk hsm hn hl
  subst hk
  have S1:=Sat.hold hS { cls:=.type "range",data:=.fields #[.int a t,.int b u,.int c v] } rfl (t:=tk)
  refine wpAny_mono (zjZ (G:=G) S1 zai hsm hn hl hs hG) (fun it s' p=>?_) fun _ _ e=>e
  obtain ⟨K2,X2,H2,args2,l2,I,F,P,h1,h2,h3,h4,h5,h6,h7,h8,h9⟩:=p
  have nF:¬ F s.heap.objs.size:=fun f=>by have:=h5 _ f; rw [zai] at this; injection this
  refine ⟨K2,fun b=>if b=s.heap.objs.size then none else X2 b,H2,args2,l2,I,F,P,h1,h2,Sat.drop h3 fun b o q=>?_,fun b hb=>?_,fun b hb=>?_,h6,h7,h8,h8.loc _ _ _ _ _ h9 Le.rfl fun b hb=>?_⟩
  ·have hb:b≠s.heap.objs.size:=fun z=>by rw [if_pos z] at q; injection q
   rw [if_neg hb] at q; exact q
  ·by_cases z:b=s.heap.objs.size
   ·show (if b=s.heap.objs.size then none else X2 b)=_
    rw [if_pos z,z]; exact hfr.2.1.symm
   ·show (if b=s.heap.objs.size then none else X2 b)=_
    rw [if_neg z,h4 b hb,zao z]
  ·have:=h5 b hb
   rw [zao (fun z:b=s.heap.objs.size=>nF (z ▸ hb))] at this; exact this
  ·exact if_neg fun z:b=s.heap.objs.size=>nF (z ▸ hb)
 rcases hf with ⟨hk,rfl⟩ | ⟨hk,rfl⟩ | ⟨hk,rfl⟩
 ·rw [hk] at hs
  rcases zpZ hs with ⟨n,rfl,b1,b2,hl⟩ | ⟨a,b,rfl,b1,b2,b3,b4,hl⟩ | ⟨a,b,c,rfl,b1,b2,b3,b4,b5,b6,hl⟩
  ·obtain ⟨v1,r1,rfl,p1,r⟩:=zaf.cons_iff.mp r
   obtain rfl:=zaf.nil_iff.mp r
   obtain ⟨t,rfl⟩:=Rep.int_iff.mp p1
   refine call_range_1 (s:=s) (rng hk (n:=n.toNat) (small_one (by lia) (by lia) (by lia) (by lia)) ?_ ?_)
   ·rw [rangeSize_one]; split <;> lia
   ·rw [hl]; simp
  ·obtain ⟨v1,r1,rfl,p1,r⟩:=zaf.cons_iff.mp r
   obtain ⟨v2,r2,rfl,p2,r⟩:=zaf.cons_iff.mp r
   obtain rfl:=zaf.nil_iff.mp r
   obtain ⟨t,rfl⟩:=Rep.int_iff.mp p1
   obtain ⟨u,rfl⟩:=Rep.int_iff.mp p2
   refine call_range_2 (s:=s) (rng hk (n:=(b - a).toNat) (small_one (by lia) (by lia) (by lia) (by lia)) ?_ ?_)
   ·rw [rangeSize_one]; split <;> lia
   ·rw [hl]; simp
  ·obtain ⟨v1,r1,rfl,p1,r⟩:=zaf.cons_iff.mp r
   obtain ⟨v2,r2,rfl,p2,r⟩:=zaf.cons_iff.mp r
   obtain ⟨v3,r3,rfl,p3,r⟩:=zaf.cons_iff.mp r
   obtain rfl:=zaf.nil_iff.mp r
   obtain ⟨t,rfl⟩:=Rep.int_iff.mp p1
   obtain ⟨u,rfl⟩:=Rep.int_iff.mp p2
   obtain ⟨v,rfl⟩:=Rep.int_iff.mp p3
   have hz:Builtin.Range.rangeSize a b c=0:=by
    unfold Builtin.Range.rangeSize
    rw [if_pos (by lia),if_neg (by lia)]
   refine call_range_3 (s:=s) (by lia) (rng hk (n:=0) ?_ hz ?_) (Or.inl (PyProof.noPylong_small (by lia)))
   ·unfold Builtin.Range.small
    rw [hz]
    simp only [Builtin.Range.rangeFitsLong,Bool.and_eq_true,Bool.or_eq_true,decide_eq_true_eq,beq_self_eq_true,true_or,and_true]
    refine ⟨⟨⟨?_,?_⟩,?_⟩,?_⟩ <;> lia
   ·rw [hl]; rfl
 ·rw [hk] at hs
  obtain ⟨a,l₀,rfl,e,hl⟩:=zpY hs
  subst hk
  obtain ⟨v1,r1,rfl,p1,r⟩:=zaf.cons_iff.mp r
  obtain rfl:=zaf.nil_iff.mp r
  obtain rfl:=Rep.ref_iff.mp p1
  obtain ⟨vs,n,e1,r⟩:=hS.list e
  refine call_enumerate_1 (s:=s) e1 fun h' he hi hz hk=>wpAny_pyIter_enum (s:={ s with heap:=h' }) he ?_
  obtain ⟨o,g1,g2⟩:=hi
  have f1:=Sat.freshI hS 1
  have ne:s.heap.objs.size+1≠s.heap.objs.size:=by exact zag (.n (.e (.a Va K1) Va)) rfl
  refine ⟨K,zab (zab X (s.heap.objs.size+1) (zeX s.heap.objs.size 0 .none)) s.heap.objs.size o,H,_,l,_,_,PEnm a (s.heap.objs.size+1) s.heap.objs.size,rfl,Le.rfl,?_,fun b hb=>?_,fun b hb=>?_,hs,hG,zmt _ _ _ _,ne,⟨.none,?_⟩,o,zai,g2⟩
  ·refine Sat.ext hS (F:=fun _=>False) (fun _ f=>f.elim) (fun b o _ q=>hk b o q) Le.rfl (fun b o q=>.inl q) (zbT ⟨hfr.1,g1,.inr (Nat.le_refl _)⟩ (zbT ⟨f1.1,he,.inr (Nat.le_succ _)⟩ fun b ob q=>⟨hS.apart _ _ q,hk _ _ (hS.keepX _ _ q),.inl (za5 q)⟩)) (t:=s.toks)
  ·rw [zao (fun q=>hb (.inr q)),zao (fun q=>hb (.inl q))]
  ·rcases hb with rfl | rfl
   ·exact f1.2.1
   ·exact hfr.2.1
  ·rw [zao (zaR ne),zai]; rfl
 ·rw [hk] at hs
  obtain ⟨a,b,l₁,l₂,rfl,ea,eb,hl⟩:=zp0 hs
  subst hk
  obtain ⟨v1,r1,rfl,p1,r⟩:=zaf.cons_iff.mp r
  obtain ⟨v2,r2,rfl,p2,r⟩:=zaf.cons_iff.mp r
  obtain rfl:=zaf.nil_iff.mp r
  obtain rfl:=Rep.ref_iff.mp p1
  obtain rfl:=Rep.ref_iff.mp p2
  obtain ⟨vs1,n1,e1,_⟩:=hS.list ea
  obtain ⟨vs2,n2,e2,_⟩:=hS.list eb
  refine call_zip_2 (s:=s) (za2 e1) (za2 e2) fun h' hz hTI hTO hi1 hi2 hsz hk=>wpAny_pyIter_zip (s:={ s with heap:=h' }) hz ?_
  obtain ⟨o1,g1,g1'⟩:=hi1
  obtain ⟨o2,g2,g2'⟩:=hi2
  have f0:=Sat.freshI hS 0
  have f1:=Sat.freshI hS 1
  have f2:=Sat.freshI hS 2
  have f3:=Sat.freshI hS 3
  have f4:=Sat.freshI hS 4
  have n01:s.heap.objs.size≠s.heap.objs.size+1:=by exact zag (.n (.e Va (.a Va K1))) rfl
  have n02:s.heap.objs.size≠s.heap.objs.size+2:=by exact zag (.n (.e Va (.a Va K2))) rfl
  have n03:s.heap.objs.size≠s.heap.objs.size+3:=by exact zag (.n (.e Va (.a Va (.k 3)))) rfl
  have n04:s.heap.objs.size≠s.heap.objs.size+4:=by exact zag (.n (.e Va (.a Va (.k 4)))) rfl
  have n12:s.heap.objs.size+1≠s.heap.objs.size+2:=by exact zag (.n (.e (.a Va K1) (.a Va K2))) rfl
  have n13:s.heap.objs.size+1≠s.heap.objs.size+3:=by exact zag (.n (.e (.a Va K1) (.a Va (.k 3)))) rfl
  have n14:s.heap.objs.size+1≠s.heap.objs.size+4:=by exact zag (.n (.e (.a Va K1) (.a Va (.k 4)))) rfl
  have n23:s.heap.objs.size+2≠s.heap.objs.size+3:=by exact zag (.n (.e (.a Va K2) (.a Va (.k 3)))) rfl
  have n24:s.heap.objs.size+2≠s.heap.objs.size+4:=by exact zag (.n (.e (.a Va K2) (.a Va (.k 4)))) rfl
  have n34:s.heap.objs.size+3≠s.heap.objs.size+4:=by exact zag (.n (.e (.a Va (.k 3)) (.a Va (.k 4)))) rfl
  refine ⟨K,zab (zab (zab (zab (zab X s.heap.objs.size o1) (s.heap.objs.size+1) o2) (s.heap.objs.size+2) (zbS (.ref s.heap.objs.size) (.ref (s.heap.objs.size+1)))) (s.heap.objs.size+3) (zbS .none .none)) (s.heap.objs.size+4) (zipO (s.heap.objs.size+2) (s.heap.objs.size+3)),H,_,l,_,
   zcM (s.heap.objs.size+4) (s.heap.objs.size+2) (s.heap.objs.size+3) s.heap.objs.size (s.heap.objs.size+1),zcO a b (s.heap.objs.size+4) (s.heap.objs.size+2) (s.heap.objs.size+3) s.heap.objs.size (s.heap.objs.size+1),rfl,Le.rfl,?_,fun b hb=>?_,fun b hb=>?_,hs,hG,zmx _ _ _ _ _ _ _ _,?_⟩
  ·refine Sat.ext hS (F:=fun _=>False) (fun _ f=>f.elim) (fun b o _ q=>hk b o q) Le.rfl (fun b o q=>.inl q) (zbT ⟨f4.1,hz,.inr (Nat.le_add_right _ _)⟩ (zbT ⟨f3.1,hTO,.inr (Nat.le_add_right _ _)⟩ (zbT ⟨f2.1,hTI,.inr (Nat.le_add_right _ _)⟩ (zbT ⟨f1.1,g2,.inr (Nat.le_add_right _ _)⟩ (zbT ⟨f0.1,g1,.inr (Nat.le_refl _)⟩ fun b ob q=>⟨hS.apart _ _ q,hk _ _ (hS.keepX _ _ q),.inl (za5 q)⟩))))) (t:=s.toks)
  ·rw [zao (fun q=>hb (.inl q)),zao (fun q=>hb (.inr (.inr (.inl q)))),zao (fun q=>hb (.inr (.inl q))),zao (fun q=>hb (.inr (.inr (.inr (.inr q))))),zao (fun q=>hb (.inr (.inr (.inr (.inl q)))))]
  ·rcases hb with rfl | rfl | rfl | rfl | rfl
   ·exact f4.2.1
   ·exact f2.2.1
   ·exact f3.2.1
   ·exact f0.2.1
   ·exact f1.2.1
  ·refine ⟨⟨zaR n24,zaR n34,zaR n04,zaR n14,zaR n23,zaR n02.symm,zaR n12.symm,zaR n03.symm,zaR n13.symm,zaR n01⟩,zai,?_,⟨.none,.none,?_⟩,⟨o1,?_,g1'⟩,⟨o2,?_,g2'⟩⟩
   ·rw [zao (zaR n24),zao (zaR n23),zai]
   ·rw [zao (zaR n34),zai]
   ·rw [zao (zaR n04),zao (zaR n03),zao (zaR n02),zao (zaR n01),zai]
   ·rw [zao (zaR n14),zao (zaR n13),zao (zaR n12),zai]
end
section
variable {W:Wx} {rc:Rc} {d:Nat} {cx:Cx} {k:List I} {st:List V} {ρ:Ro} {H:Hp} {Q:Out→Prop} {A:Around} {s:Shared} {K X:Fz} {env:Env}
theorem zmy {it:Expr}:zbj cx it=.plain∨∃ x p args pos v,it=.Call (.Name x p) args [] pos∧zcS cx x=[.lit (.raw v)]∧zb2 v=true ∧
  ((zbj cx it=.range∧v=.type "range")∨(zbj cx it=.enum∧v=.type "enumerate")∨(zbj cx it=.zip∧v=.type "zip")):=by
 rcases q:zfT it with _ | ⟨⟨x,args,p,pos⟩,rfl⟩
 ·exact .inl (by unfold zbj; rw [q])
 clear q
 by_cases hb:isB cx x=true
 ·have key:∀ v,zdd.lookup x=some v→(x == S "__debug__" || x == S "__classdict__")=false→zcS cx x=[.lit (.raw v)]:=fun v hv hd=>by
   unfold isB at hb
   simp only [Bool.and_eq_true,beq_iff_eq,Option.isNone_iff_eq_none] at hb
   unfold zcS
   rw [if_neg (by rw [hd]; simp),hb.1.1]
   simp only [hb.1.2,hv]
  by_cases h1:x=S "range"
  ·subst h1
   refine .inr ⟨_,_,_,_,.type "range",rfl,key _ (by decide) (by decide),rfl,.inl ⟨?_,rfl⟩⟩
   show (if isB cx (S "range")=true then _ else _)=_
   rw [if_pos hb]; rfl
  by_cases h2:x=S "enumerate"
  ·subst h2
   refine .inr ⟨_,_,_,_,.type "enumerate",rfl,key _ (by decide) (by decide),rfl,.inr (.inl ⟨?_,rfl⟩)⟩
   show (if isB cx (S "enumerate")=true then _ else _)=_
   rw [if_pos hb]; rfl
  by_cases h3:x=S "zip"
  ·subst h3
   refine .inr ⟨_,_,_,_,.type "zip",rfl,key _ (by decide) (by decide),rfl,.inr (.inr ⟨?_,rfl⟩)⟩
   show (if isB cx (S "zip")=true then _ else _)=_
   rw [if_pos hb]; rfl
  ·refine .inl ?_
   show (if isB cx x=true then _ else _)=_
   rw [if_pos hb,if_neg (by simpa using h1),if_neg (by simpa using h2),if_neg (by simpa using h3)]
 ·refine .inl ?_
  show (if isB cx x=true then _ else _)=_
  rw [if_neg hb]
theorem ze9 (ih:SE W rc) {t it:Expr} (hb:zb5 cx t it=false) {G:List V→Hp→List V→Prop} (hG:∀ args H',args.length=zce cx it→Run W d k (args.reverse++st) ρ H' Q→∃ l,Src H' (zbj cx it) args l∧G args H' l)
  (h:Run W d (zcF rc cx it++k) st ρ H Q) (hA:zaw d A) (hS:W.Sat K X H s) (F:zau W K X cx env ρ) :
  wpAny W.M A (eval it env) (fun v s₁=>wpAny W.M A (pyIter v) (fun iv s₂=>zcj W (zbj cx it) G K X iv s₂) NoE s₁) NoE s:=by
 rcases zmy (cx:=cx) (it:=it) with hk | ⟨x,p,args,pos,v,rfl,hc,hv,hk⟩
 ·have hN:zce cx it=1:=by unfold zce; rw [hk]
  unfold zcF at h
  rw [hk] at h hG ⊢
  refine wpAny_mono (ih _ _ _ _ _ _ _ _ h _ _ _ _ _ hA hS F) (fun v s' ⟨K',x,H',le,hS',rv,hr⟩=>?_) fun _ _ e=>e
  obtain ⟨l,hs,g⟩:=hG [x] H' (by rw [hN]; rfl) hr
  exact wpAny_mono (zjY hS' rv hs g) (fun _ _ p=>p.up le) fun _ _ e=>e
 ·have hN:zce cx (.Call (.Name x p) args [] pos)=args.length:=by unfold zce; rcases hk with ⟨e,_⟩ | ⟨e,_⟩ | ⟨e,_⟩ <;> rw [e] <;> rfl
  have hst:args.any zbV=false:=by
   unfold zb5 at hb
   rcases hk with ⟨e,_⟩ | ⟨e,_⟩ | ⟨e,_⟩ <;> rw [e] at hb
   ·exact hb
   ·exact (Bool.or_eq_false_iff.mp hb).1
   ·exact (Bool.or_eq_false_iff.mp hb).1
  have h':Run W d (zbs rc cx args++k) st ρ H Q:=by
   unfold zcF at h
   rcases hk with ⟨e,_⟩ | ⟨e,_⟩ | ⟨e,_⟩ <;> rw [e] at h <;> exact h
  have he:eval (.Call (.Name x p) args [] pos) env=(do callWith pos (← eval (.Name x p) env) [] (backTo pos (starEach args env)) (backToKw pos (keywordEach [] env))):=rfl
  rw [he]
  refine zbn (R:=fun y H'=>y=.raw v∧H'=H) (wpAny_mono (ziW (d:=d) (k:=[]) (st:=[]) (Q:=fun o=>o=.nxt [.raw v] ρ H) (by rw [hc]; exact .lit (.nil rfl)) hS F) (fun _ _ p=>p.mono fun x H' hr=>?_) fun _ _ e=>e) fun f s' K' x' H' le hS' rv ⟨e1,e2⟩=>?_
  ·cases hr.iNil; exact ⟨rfl,rfl⟩
  subst e1 e2
  obtain rfl:=Rep.raw_iff.mp rv
  refine zf2 (zeo hst _ _) (zhH hst (wpAny_mono (zdz ih hst h' hA hS' (F.le le)) (fun vs s2 ⟨K2,H2,l,le2,hS2,rl,hl,hr2⟩=>?_) fun _ _ e=>e))
  obtain ⟨l',hs,g⟩:=hG l H2 (by rw [hN]; exact hl) hr2
  exact ⟨zh3 hv hS2,wpAny_mono (zjX hk hS2 rl hs g) (fun _ _ q=>wpAny_mono q (fun _ _ p=>p.up (le.trans le2)) fun _ _ e=>e) fun _ _ e=>e⟩
noncomputable def zbJ (env:Env) (cs:List (Str × Addr)) (p:Str × NameKind):List (Str × Addr):=if p.2 == .free then (p.1,(env.cells.lookup p.1).getD 0)::cs else cs
theorem zka {sc:Scope} (h:∀ p ∈ sc.names,p.2=.free→∃ c,env.cells.lookup p.1=some c):closureFor sc env=pure (sc.names.foldl (zbJ env) []):=by
 have key:∀ (names:List (Str × NameKind)) (cs:List (Str × Addr)),(∀ p ∈ names,p.2=.free→∃ c,env.cells.lookup p.1=some c) →
   (forIn names cs fun x r=>(do if (x.2 == .free)=true then do let y ← cellOf env x.1; pure (ForInStep.yield ((x.1,y)::r)) else pure (ForInStep.yield r):Sem (ForInStep (List (Str × Addr)))))=pure (names.foldl (zbJ env) cs):=by
  intro names
  induction names with
  | nil=>intro cs _; rfl
  | cons p r ih =>
   intro cs hp
   rw [List.forIn_cons,List.foldl_cons]
   by_cases q:(p.2 == NameKind.free)=true
   ·have q':p.2=.free:=by revert q; rcases p.2 with _ | _ <;> simp
    obtain ⟨c,hc⟩:=hp p (.head _) q'
    have e:cellOf env p.1=pure c:=by unfold cellOf; rw [hc]
    rw [if_pos q,e,pure_bind,pure_bind]
    have e2:zbJ env cs p=(p.1,c)::cs:=by unfold zbJ; rw [if_pos q,hc]; rfl
    rw [e2]
    exact ih _ fun p' h'=>hp p' (.tail _ h')
   ·rw [if_neg q,pure_bind]
    have e2:zbJ env cs p=cs:=by unfold zbJ; rw [if_neg q]
    rw [e2]
    exact ih _ fun p' h'=>hp p' (.tail _ h')
 have:=key sc.names [] h
 unfold closureFor
 simp only [bind_pure]
 exact this
theorem zht {x:Str} {c:Addr} (hc:env.cells.lookup x=some c):∀ (names:List (Str × NameKind)) (cs:List (Str × Addr)),cs.lookup x=some c→(names.foldl (zbJ env) cs).lookup x=some c
 | [],_,h=>h
 | p::r,cs,h=>by
  rw [List.foldl_cons]
  refine zht hc r _ ?_
  unfold zbJ
  split
  ·rw [List.lookup_cons]
   split
   ·rename_i q; rw [← beq_iff_eq.mp q,hc]; rfl
   ·exact h
  ·exact h
theorem zhs {x:Str} {c:Addr} (hc:env.cells.lookup x=some c):∀ (names:List (Str × NameKind)) (cs:List (Str × Addr)),(x,NameKind.free) ∈ names→(names.foldl (zbJ env) cs).lookup x=some c
 | p::r,cs,h=>by
  rw [List.foldl_cons]
  rcases List.mem_cons.mp h with rfl | h
  ·refine zht hc r _ ?_
   unfold zbJ
   have q:((x,NameKind.free).snd == NameKind.free)=true:=rfl
   rw [if_pos q,List.lookup_cons]
   simp [hc]
  ·exact zhs hc r _ h
theorem zfx (env:Env) (x:Str):∀ (names:List (Str × NameKind)),
  let l:=(names.map fun (n,k)=>if (k == NameKind.free && env.scope.kind == .function && env.kindOf n == some .cell) then (n,NameKind.cell) else (n,k)).lookup x
  l=names.lookup x∨(names.lookup x=some .free∧l=some .cell)
 | []=>.inl rfl
 | (n,kk)::r=>by
  have ih:=zfx env x r
  dsimp only at ih ⊢
  rw [List.map_cons]
  by_cases c:(kk == NameKind.free && env.scope.kind == .function && env.kindOf n == some .cell)=true
  ·rw [if_pos c,List.lookup_cons,List.lookup_cons]
   induction q:x == n with
   | true =>
    refine .inr ⟨?_,rfl⟩
    simp only [Bool.and_eq_true] at c
    have:kk=.free:=by have:=c.1.1; revert this; rcases kk with _ | _ <;> simp
    rw [this]
   | false=>exact ih
  ·rw [if_neg c,List.lookup_cons,List.lookup_cons]
   induction q:x == n with
   | true=>exact .inl rfl
   | false=>exact ih
theorem zcX:∀ {l:List Str},zcw l=true→l.Nodup
 | [],_=>List.nodup_nil
 | x::r,h=>by
  unfold zcw at h
  simp only [Bool.and_eq_true,Bool.not_eq_true',List.contains_eq_mem,decide_eq_false_iff_not] at h
  exact List.nodup_cons.mpr ⟨h.1,zcX h.2⟩
structure LcF (cx:Cx) (sc:Scope):Prop where
 kind:sc.kind=.function
 nd:(zbr sc.names).Nodup
 nocell:∀ p ∈ sc.names,p.2≠.cell
 loc:∀ p ∈ sc.names,p.2=.local→sc.names.lookup p.1=some .local
 free:∀ p ∈ sc.names,p.2=.free→sc.names.lookup p.1=some .free∧(∃ j,place? cx.vars p.1=some j)∧(cx.names.lookup p.1=some .cell∨cx.names.lookup p.1=some .free)
theorem zmz {a b:NameKind} (h:(a == b)=true):a=b:=by rcases a with _ | _ <;> rcases b with _ | _ <;> first | rfl | injection h
theorem zb7 {a:Option NameKind} {b:NameKind} (h:(a == some b)=true):a=some b:=by
 induction a with
 | none=>injection h
 | some a=>exact congrArg some (zmz h)
theorem lc_f {sc:Scope} (h:zdm cx sc=true):LcF cx sc:=by
 unfold zdm at h
 simp only [Bool.and_eq_true,List.all_eq_true,Bool.or_eq_true] at h
 obtain ⟨⟨h1,h2⟩,h3⟩:=h
 refine ⟨?_,zcX h2,fun p hp q=>?_,fun p hp q=>?_,fun p hp q=>?_⟩
 ·revert h1; rcases sc.kind with _ | _ <;> simp
 ·have:=(h3 p hp).1.1; rw [q] at this; injection this
 ·rcases (h3 p hp).1.2 with h | h
  ·rw [q] at h; injection h
  ·exact zb7 h
 ·rcases (h3 p hp).2 with h | h
  ·rw [q] at h; injection h
  ·exact ⟨zb7 h.1.1,Option.isSome_iff_exists.mp h.1.2,h.2.imp zb7 zb7⟩
end
section
variable {W:Wx} {rc:Rc} {d:Nat} {cx:Cx} {k:List I} {st:List V} {ρ:Ro} {H:Hp} {Q:Out→Prop} {A:Around} {s:Shared} {K X:Fz} {env:Env}
theorem zaO {α:Type} {t:Sem α} {Q Q':α→Shared→Prop} {E:Value→Shared→Prop} (h:wpAny W.M A t Q NoE s) (g:∀ a s',Q a s'→Q' a s'):wpAny W.M A t Q' E s:=wpAny_mono h g fun _ _ e=>e.elim
theorem zkd {R:Result→Shared→Prop} {elt target iter:Expr} {scope:Scope} {pos:Pos} {it acc:Value} {env:Env} (J:Nat→Shared→Prop)
  (turn:∀ n s,J n s→wpAny W.M A (pyNext it) (fun r s₁=>match r with
   | none=>R (.ok .next) s₁
   | some v=>wpAny W.M A (letOwnedTupleGo target it v) (fun _ s₁'=>wpAny W.M A (assign target env v) (fun _ s₂=>wpAny W.M A (eval elt env) (fun x s₃ =>
     wpAny W.M A (PySem.call (.builtin "list.append") [acc,x]) (fun _ s₄=>∃ m,m < n∧J m s₄) NoE s₃) NoE s₂) NoE s₁') NoE s₁) NoE s)
  (n:Nat) (h:J n s):codeAny W.M A (.compLoop (.ListComp elt [⟨target,iter,[],0⟩] scope pos) 0 it acc env) R s:=by
 refine codeAny_loop rfl J (fun n s hI=>?_) n h
 show wpAny _ _ ((compTurn (.ListComp elt [⟨target,iter,[],0⟩] scope pos) 0 it acc env).onRaise (fun x=>do noteFrame x env; theTreesLotGoes x)) _ _ s
 refine wpAny_noted ?_
 rw [compTurn_list1]
 refine wpAny_bind (wpAny_standAt (wpAny_bind (zaO (turn n s hI) fun r s₁ h₁=>?_)))
 induction r with
 | none=>exact wpAny_pure h₁
 | some v =>
  refine wpAny_bind (zaO h₁ fun _ s₁' h₁'=>?_)
  exact wpAny_bind (zaO h₁' fun _ s₂ h₂=>wpAny_bind (wpAny_bind (zaO h₂ fun x s₃ h₃=>wpAny_bind (zaO h₃ fun _ s₄ h₄=>wpAny_pure (wpAny_pure ⟨rfl,h₄⟩)))))
noncomputable abbrev zcD (env:Env) (sc:Scope):List (Str × Addr):=sc.names.foldl (zbJ env) []
theorem zhy {sc:Scope} (L:LcF cx sc) (F:zau W K X cx env ρ) (hs:∀ j,some j ∈ zct cx sc→∃ y,ρ[j]?=some (some y)) :
  closureFor sc env=pure (zcD env sc)∧∀ K' X' C m,Le K K'→Le X X'→KNs X' C m→W.h₀.get? C=none →
   zau W K' X' ⟨sc.names,zbr sc.names⟩ (compEnvC sc (zcD env sc) C env) ((zct cx sc).map fun j=>j.bind fun j=>(ρ[j]?).join):=by
 have hcell:∀ p ∈ sc.names,p.2=.free→∃ j y c oc v,place? cx.vars p.1=some j∧ρ[j]?=some (some y)∧env.cells.lookup p.1=some c∧X c=some oc∧oc.data=.cell (some v)∧Rep K y v:=fun p hp q=>by
  obtain ⟨h1,⟨j,hj⟩,h2⟩:=L.free p hp q
  have hm:some j ∈ zct cx sc:=by
   refine List.mem_map.mpr ⟨p.1,?_,?_⟩
   ·refine List.mem_map.mpr ⟨p,List.mem_filter.mpr ⟨hp,?_⟩,rfl⟩
    rw [q]; simp
   ·rw [h1,hj]; rfl
  obtain ⟨y,hy⟩:=hs j hm
  obtain ⟨m,_,hsl⟩:=F.ns
  have:=hsl j p.1 (zcf hj)
  rw [zfa hy] at this
  unfold zaZ at this
  have en:env.scope.names.lookup p.1=some .cell∨env.scope.names.lookup p.1=some .free:=by
   rcases F.names p.1 with e | ⟨_,e⟩
   ·rw [e]; exact h2
   ·exact .inl e
  rcases en with e | e <;> rw [e] at this <;> obtain ⟨c,oc,v,a1,a2,a3,a4⟩:=this <;> exact ⟨j,y,c,oc,v,hj,hy,a1,a2,a3,a4⟩
 refine ⟨zka fun p hp q=>by obtain ⟨j,y,c,oc,v,_,_,e,_⟩:=hcell p hp q; exact ⟨c,e⟩,fun K' X' C m le leX hn hb=>⟨fun x=>zfx env x sc.names,L.kind,F.glob,F.blt,L.nd,by simp,⟨m,hn,fun i x hx=>?_⟩,hb⟩⟩
 have e0:((zct cx sc).map fun j=>j.bind fun j=>(ρ[j]?).join)[i]?=some ((if sc.names.lookup x == some .free then place? cx.vars x else none).bind fun j=>(ρ[j]?).join):=by
  rw [List.getElem?_map,List.getElem?_map]
  rw [show (zbr sc.names)[i]?=some x from hx]; rfl
 rw [e0]
 show zaZ _ _ _ _ _ ((if sc.names.lookup x == some .free then place? cx.vars x else none).bind fun j=>(ρ[j]?).join)
 by_cases q:(sc.names.lookup x == some .free)=true
 ·have q':=zb7 q
  obtain ⟨j,y,c,oc,v,h1,h2,h3,h4,h5,h6⟩:=hcell (x,.free) (zcJ q') rfl
  rw [if_pos q,h1]
  show zaZ _ _ _ _ _ (ρ[j]?).join
  rw [zfa h2]
  unfold zaZ
  have hc:=zhs h3 sc.names [] (zcJ q')
  rcases zfx env x sc.names with e | ⟨_,e⟩
  ·have e':(compEnvC sc (zcD env sc) C env).scope.names.lookup x=some .free:=Eq.trans e q'
   rw [e']
   exact ⟨c,oc,v,hc,leX _ _ h4,h5,h6.le le⟩
  ·have e':(compEnvC sc (zcD env sc) C env).scope.names.lookup x=some .cell:=e
   rw [e']
   exact ⟨c,oc,v,hc,leX _ _ h4,h5,h6.le le⟩
 ·rw [if_neg q]; trivial
end
section
variable {W:Wx} {rc:Rc} {d:Nat} {cx:Cx} {k:List I} {st:List V} {ρ:Ro} {H:Hp} {Q:Out→Prop} {A:Around} {s:Shared} {K X:Fz} {env:Env}
structure zc8 (W:Wx) (K X:Fz) (l:List V) (J:Nat→List V→Hp→Prop) (D C:Addr) (s':Shared) (K' X':Fz) (H':Hp) (acc:List V) (vs:Array Value) (n:Nat):Prop where
 le:Le K K'
 eqX:∀ b,b≠C→b≠D→X' b=X b
 sat:W.Sat K' X' H' s'
 hD:X' D=some (za3 vs n)
 reps:zaf K' acc vs.toList
 len:acc.length=l.length
 j:J l.length acc H'
 hC:∃ m,KNs X' C m
 ne:D≠C
 xD:X D=none
 xC:X C=none
theorem zc8.leX {l:List V} {J:Nat→List V→Hp→Prop} {D C:Addr} {K' X':Fz} {H':Hp} {acc:List V} {vs:Array Value} {n:Nat} (B:zc8 W K X l J D C s K' X' H' acc vs n):Le X X':=fun b o e=>by
 rw [B.eqX b (fun q=>by rw [q,B.xC] at e; injection e) (fun q=>by rw [q,B.xD] at e; injection e)]; exact e
inductive LcI (W:Wx) (K₂ X:Fz) (F:Addr→Prop) (P:Nat→Fz→Fz→Prop) (J:Nat→List V→Hp→Prop) (l:List V) (D C:Addr) (n:Nat) (s':Shared):Prop
 | mk (i:Nat) (K' X':Fz) (H':Hp) (acc:List V) (vs:Array Value) (nn:Nat) (hn:n=l.length+1 - i) (hi:i≤l.length) (le:Le K₂ K') (hS:W.Sat K' X' H' s') (hP:P i K' X') (hD:X' D=some (za3 vs nn))
  (r:zaf K' acc vs.toList) (hl:acc.length=i) (hJ:J i acc H') (hk:∃ m,KNs X' C m) (eX:∀ b,¬ F b→b≠C→b≠D→X' b=X b)
theorem zh8 (ih:SE W rc) {elt t it:Expr} {sc:Scope} {pos:Pos} {kd:Kd} {l args:List V} {I:Addr} {F:Addr→Prop} {P:Nat→Fz→Fz→Prop} {J:Nat→List V→Hp→Prop} {K₂ X₂:Fz} {ρ₀:Ro} {RR:Value→Addr→Result→Shared→Prop}
  (L:LcF cx sc) (hA:zaw d A) (le:Le K K₂) (hS:W.Sat K₂ X₂ H s) (hX:∀ b,¬ F b→X₂ b=X b) (hF:∀ b,F b→X b=none) (itr:Itr W kd args l I F P) (hP:P 0 K₂ X₂) (ht:okT kd t)
  (J0:J 0 [] H) (hJ:∀ i acc H,i≤l.length→J i acc H→Src H kd args l) (hlen:l.length≤1000)
  (turn:∀ i x acc H,l[i]?=some x→acc.length=i→J i acc H→Run W d (zbi 8 ⟨sc.names,zbr sc.names⟩ t++rc ⟨sc.names,zbr sc.names⟩ elt) [x] ρ₀ H (fun o=>match o with | .nxt [y] _ H'=>J (i+1) (acc++[y]) H' | _=>False))
  (fr:∀ K' X' C m,Le K K'→Le X X'→KNs X' C m→W.h₀.get? C=none→zau W K' X' ⟨sc.names,zbr sc.names⟩ (compEnvC sc (zcD env sc) C env) ρ₀)
  (fin:∀ D C s' K' X' H' acc vs n,zc8 W K X l J D C s' K' X' H' acc vs n→RR (.ref D) C (.ok .next) s') :
  wpAny W.M A (newList []) (fun acc s₃=>wpAny W.M A (newFunctionEnv sc env.globals (zcD env sc) [] env.qual none .none (some env)) (fun cenv s₄ =>
   codeAny W.M A (.compStart (.ListComp elt [⟨t,it,[],0⟩] sc pos) 0 (.ref I) acc { cenv with scope:=relabel sc env }) (RR acc cenv.locals) s₄) NoE s₃) NoE s:=by
 refine wpAny_newObj_type (wpAny_newFunctionEnv L.nocell (by intro y hy; simp at hy) (fun h₁ hns₁ hsb₁=>?_) L.kind)
 dsimp only at hns₁ hsb₁ ⊢
 have hfr:=Sat.fresh hS
 have S3:=Sat.hold hS { cls:=.type "list",dict:=none,data:=.seq ([]:List Value).toArray } rfl (t:=s.toks)
 have f4:=Sat.fresh S3
 have hC:({ s with heap:=s.heap.push { cls:=.type "list",dict:=none,data:=.seq ([]:List Value).toArray } }:Shared).heap.objs.size=s.heap.objs.size+1:=Heap.size_push ..
 generalize hH2:s.heap.push { cls:=.type "list",dict:=none,data:=.seq ([]:List Value).toArray }=H2 at hns₁ hsb₁ hC S3 f4 ⊢
 replace hC:H2.objs.size=s.heap.objs.size+1:=hC
 have hDC:s.heap.objs.size≠H2.objs.size:=by rw [hC]; exact Nat.ne_of_lt (Nat.lt_succ_self _)
 generalize hD:s.heap.objs.size=D at *
 generalize hC':H2.objs.size=C at *
 obtain ⟨oC,esC,epC,c1,c2,c3,c4⟩:=hns₁
 have old:∀ b o,H2.get? b=some o→h₁.get? b=some o:=fun b o e=>hsb₁.extBut b o (by rw [← hC']; exact Nat.ne_of_lt (ltS e)) (Heap.get?_push_of_some _ e)
 have S4:W.Sat K₂ (zab (zab X₂ D { cls:=.type "list",dict:=none,data:=.seq ([]:List Value).toArray }) C oC) H { s with heap:=h₁,toks:=s.toks+([]:List (Str × Value)).length }:=by
  refine Sat.ext S3 (F:=fun _=>False) (fun _ f=>f.elim) (fun b o _ q=>old b o q) Le.rfl (fun b o q=>.inl q) (zbT ⟨f4.1,c1,.inr (Nat.le_of_eq hC')⟩ fun b ob q=>⟨S3.apart _ _ q,old _ _ (S3.keepX _ _ q),.inl (za5 q)⟩) (t:=s.toks+([]:List (Str × Value)).length)
 have nFD:¬ F D:=fun f=>by obtain ⟨o,q⟩:=itr.has _ _ _ _ hP f; rw [hfr.2.1] at q; injection q
 have x2C:X₂ C=none:=by have:=f4.2.1; rwa [zao hDC.symm] at this
 have nFC:¬ F C:=fun f=>by obtain ⟨o,q⟩:=itr.has _ _ _ _ hP f; rw [x2C] at q; injection q
 have xD:X D=none:=(hX _ nFD).symm.trans hfr.2.1
 have xC:X C=none:=(hX _ nFC).symm.trans x2C
 have nF:∀ b o,X b=some o→¬ F b:=fun b o e f=>by rw [hF b f] at e; injection e
 have nD:∀ b o,X b=some o→b≠D:=fun b o e q=>by rw [q,xD] at e; injection e
 have nC:∀ b o,X b=some o→b≠C:=fun b o e q=>by rw [q,xC] at e; injection e
 have hb:W.h₀.get? C=none:=by
  induction q:W.h₀.get? C with
  | none=>rfl
  | some o=>have:=hS.base _ _ q; rw [f4.1] at this; injection this
 have cC:oC.data=.dict esC epC:=c2
 have loop:codeAny W.M A (.compLoop (.ListComp elt [⟨t,it,[],0⟩] sc pos) 0 (.ref I) (.ref D) (compEnvC sc (zcD env sc) C env)) (RR (.ref D) C) { s with heap:=h₁,toks:=s.toks+([]:List (Str × Value)).length }:=by
  refine zkd (LcI W K₂ X F P J l D C) ?_ (l.length+1)
   ⟨0,K₂,_,H,[],#[],0,rfl,Nat.zero_le _,Le.rfl,S4,?_,?_,zaf.nil,rfl,J0,⟨_,oC,esC,epC,zai,c2,c3,c4⟩,?_⟩
  ·rintro n s' ⟨i,K',X',H',acc,vs,nn,rfl,hi,le',S',P',hD',hr',hl',hj',⟨m',hk'⟩,eX'⟩
   by_cases hlt:i < l.length
   ·refine zaO (itr.next A s' K' X' H' i t hA.handled S' P' (hJ i acc H' hi hj') hlt ht) fun r s₁ ⟨v,e,hgo⟩=>?_
    subst e
    refine zaO hgo fun _ s₁' ⟨K1,X1,x,hx,rv,le1,eX1,P1,S1⟩=>?_
    have leX1:Le X X1:=fun b o e=>(eX1 b (nF b o e)).trans ((eX' b (nF b o e) (nC b o e) (nD b o e)).trans e)
    have k1:KNs X1 C m':=by obtain ⟨o,es,ep,a1,a2⟩:=hk'; exact ⟨o,es,ep,(eX1 C nFC).trans a1,a2⟩
    have F1:=fr K1 X1 C m' ((le.trans le').trans le1) leX1 k1 hb
    refine zaO (zdL hA 8 (turn i x acc H' hx hl' hj') rv S1 F1) fun _ s₂ ⟨K2,X2,H2,ρ2,le2,eX2,S2,F2,run2⟩=>?_
    rw [← List.append_nil (rc ⟨sc.names,zbr sc.names⟩ elt)] at run2
    refine zaO (ih d ⟨sc.names,zbr sc.names⟩ elt [] [] ρ2 H2 _ run2 A s₂ K2 X2 _ hA S2 F2) fun y s₃ ⟨K3,yv,H3,le3,S3',ry,run3⟩=>?_
    have run3:=run3.iNil
    have x2D:X2 D=some (za3 vs nn):=(eX2 D hDC).trans ((eX1 D nFD).trans hD')
    have hvs:vs.size=i:=by rw [zaX hr',hl']
    refine wpAny_list_append_plain (s:=s₃) ⟨nn,S3'.keepX _ _ x2D⟩ (fun h' hl2 hs2=>?_) (by rw [hvs,sizeLine_eq]; exact zad (.i (.l Va (.k 1000)) (.i (.l Vb Va) (.l Vb (.k 16777216)))) rfl hlen hi)
    obtain ⟨n2,e2⟩:=hl2
    have S5:=Sat.change S3' x2D hs2 e2 (t:=s₃.toks)
    obtain ⟨m2,⟨o2,es2,ep2,b1,b2⟩,_⟩:=F2.ns
    refine ⟨l.length+1 - (i+1),Nat.sub_lt_sub_left (Nat.lt_succ_of_le hi) (Nat.lt_succ_self i),i+1,K3,_,H3,acc++[yv],_,n2,rfl,hlt,((le'.trans le1).trans le2).trans le3,S5,?_,zai,?_,by simp [hl'],run3,⟨m2,o2,es2,ep2,?_,b2⟩,?_⟩
    ·refine itr.loc _ _ _ _ _ P1 (le2.trans le3) fun b hb=>?_
     have h1:b≠D:=fun q=>nFD (q ▸ hb)
     have h2:b≠C:=fun q=>nFC (q ▸ hb)
     rw [zao h1]; exact eX2 b h2
    ·rw [Array.toList_push]
     exact (hr'.le ((le1.trans le2).trans le3)).append (zaf.cons ry zaf.nil)
    ·rw [zao hDC.symm]; exact b1
    ·intro b hf hc hd
     rw [zao hd,eX2 b hc,eX1 b hf,eX' b hf hc hd]
   ·have hin:i=l.length:=by exact zad (.i (.l Va Vb) (.i (.n (.t Va Vb)) (.e Va Vb))) rfl hi hlt
    subst hin
    refine zaO (itr.done A s' K' X' H' hA.handled S' P' (hJ _ acc H' hi hj')) fun r s₁ ⟨e,X1,eX1,nX1,S1⟩=>?_
    subst e
    have k1:KNs X1 C m':=by obtain ⟨o,es,ep,a1,a2⟩:=hk'; exact ⟨o,es,ep,(eX1 C nFC).trans a1,a2⟩
    exact fin D C s₁ K' X1 H' acc vs nn ⟨le.trans le',fun b hc hd=>by
     by_cases f:F b
     ·rw [nX1 b f,hF b f]
     ·rw [eX1 b f,eX' b f hc hd],S1,(eX1 D nFD).trans hD',hr',hl',hj',⟨m',k1⟩,hDC,xD,xC⟩
  ·refine itr.loc _ _ _ _ _ hP Le.rfl fun b hb=>?_
   have h1:b≠D:=fun q=>nFD (q ▸ hb)
   have h2:b≠C:=fun q=>nFC (q ▸ hb)
   rw [zao h2,zao h1]
  ·rw [zao hDC,zai]
  ·intro b hf hc hd
   rw [zao hc,zao hd,hX b hf]
 have P4:P 0 K₂ (zab (zab X₂ D { cls:=.type "list",dict:=none,data:=.seq ([]:List Value).toArray }) C oC):=by
  refine itr.loc _ _ _ _ _ hP Le.rfl fun b hb=>?_
  have h1:b≠D:=fun q=>nFD (q ▸ hb)
  have h2:b≠C:=fun q=>nFC (q ▸ hb)
  rw [zao h2,zao h1]
 exact codeAny_compStart_list loop (itr.self A _ _ _ _ _ _ _ S4 P4 loop)
end
section
variable {W:Wx} {rc:Rc} {d:Nat} {cx:Cx} {k:List I} {st:List V} {ρ:Ro} {H:Hp} {Q:Out→Prop} {A:Around} {s:Shared} {K X:Fz} {env:Env}
theorem ze2 {t it:Expr} (h:zb5 cx t it=false) (x:Value):foldedSetIterable it env x=pure x:=by
 rcases it with _ | _ <;> first | rfl | exact tf h
theorem zfn {t it:Expr} (h:zb5 cx t it=false):okT (zbj cx it) t:=by
 unfold zb5 at h
 unfold okT
 rcases q:zbj cx it with _ | _ <;> rw [q] at h <;> simp_all
inductive LcG (W:Wx) (d:Nat) (k:List I) (st:List V) (ρ:Ro) (Q:Out→Prop) (kd:Kd) (vs:List (Option Nat)) (t e:List I) (args:List V) (H:Hp) (l:List V):Prop
 | mk (J:Nat→List V→Hp→Prop) (j0:J 0 [] H) (src:∀ i acc H,i≤l.length→J i acc H→Src H kd args l) (len:l.length≤1000)
  (turn:∀ i x acc H,l[i]?=some x→acc.length=i→J i acc H→Run W d (t++e) [x] (vs.map fun j=>j.bind fun j=>(ρ[j]?).join) H (fun o=>match o with | .nxt [y] _ H'=>J (i+1) (acc++[y]) H' | _=>False)) (cont:∀ acc H,acc.length=l.length→J l.length acc H→∀ a,H a=none→Run W d k (.ref a::st) ρ (zab H a (.list acc)) Q)
theorem lc_G {kd:Kd} {vs:List (Option Nat)} {t e:List I} {n:Nat} {args:List V} (hn:args.length=n) (h:Run W d (.lc kd n vs t e::k) (args.reverse++st) ρ H Q):∃ l,Src H kd args l∧LcG W d k st ρ Q kd vs t e args H l:=by
 obtain ⟨S,hS,st',l,args',J,h3,h4,h6,h2,h1,h5,h7⟩:=Run.inv h
 obtain ⟨e1,rfl⟩:=List.append_inj h4 (by simp [h3,hn])
 have e1:=List.reverse_inj.mp e1
 subst e1
 exact ⟨l,h2 0 [] H (Nat.zero_le _) h6,J,h6,h2,h1,fun i x c H q r j=>hS _ _ _ _ _ (h5 i x c H q r j),fun c H q r a z=>hS _ _ _ _ _ (h7 c H q r a z)⟩
theorem zc8.hand {l:List V} {J:Nat→List V→Hp→Prop} {D C:Addr} {K' X':Fz} {H':Hp} {acc:List V} {vs:Array Value} {n:Nat} (B:zc8 W K X l J D C s K' X' H' acc vs n) {h':Heap} (hs:Heap.SameBut C s.heap h') :
  H' D=none∧W.Sat K' X (zab H' D (.list acc)) { s with heap:=h' }:=by
 obtain ⟨m,o,es,ep,c1,c2⟩:=B.hC
 have S1:W.Sat K' (fun b=>if b=C then none else X' b) H' { s with heap:=h',toks:=s.toks }:=by
  refine Sat.ext B.sat (F:=(·=C)) (fun b hb=>⟨o,hb ▸ c1⟩) (fun b o hb q=>hs.extBut b o hb q) Le.rfl (fun b o q=>.inl q) (fun b ob q=>?_)
  have hb:b≠C:=fun z=>by rw [if_pos z] at q; injection q
  rw [if_neg hb] at q
  exact ⟨B.sat.apart _ _ q,hs.extBut _ _ hb (B.sat.keepX _ _ q),.inl (za5 q)⟩
 have hD:(fun b=>if b=C then none else X' b) D=some (za3 vs n):=by
  show (if D=C then none else X' D)=_
  rw [if_neg B.ne]; exact B.hD
 refine Sat.thaw S1 hD (fun b o q=>?_) B.xD (m:=.list acc) (fun _ _ e=>nomatch e) (Heap.SameBut.refl ..) (fun D'=>⟨vs,n,S1.keepX _ _ hD,B.reps⟩)
 show (if b=C then none else X' b)=_
 rw [if_neg (fun z=>by rw [z,B.xC] at q; injection q)]; exact B.leX _ _ q
theorem zhw {e:Expr} {gs:List Comprehension} {sc:Scope} (h:Run W d (zcR rc cx e gs sc++k) st ρ H Q):∃ t it,gs=[⟨t,it,[],0⟩]∧zb5 cx t it=false∧zdm cx sc=true ∧
  Run W d (.has (zct cx sc)::(zcF rc cx it++(.lc (zbj cx it) (zce cx it) (zct cx sc) (zbi 8 ⟨sc.names,zbr sc.names⟩ t) (rc ⟨sc.names,zbr sc.names⟩ e)::k))) st ρ H Q:=by
 rcases gs with _ | ⟨⟨t,it,ifs,as⟩,r⟩
 ·exact h.off
 rcases r with _ | ⟨_,_⟩
 rotate_left
 ·exact h.off
 replace h:Run W d (zeM rc cx e ⟨t,it,ifs,as⟩ sc++k) st ρ H Q:=h
 unfold zeM at h
 rcases q:((Comprehension.mk t it ifs as).ifs.isEmpty && (Comprehension.mk t it ifs as).is_async == 0) && (!zb5 cx (Comprehension.mk t it ifs as).target (Comprehension.mk t it ifs as).iter && zdm cx sc) <;> rw [q] at h
 ·exact h.off
 have q1:=Bool.and_eq_true_iff.mp q
 have q2:=Bool.and_eq_true_iff.mp q1.1
 have q3:=Bool.and_eq_true_iff.mp q1.2
 have e1:ifs=[]:=List.isEmpty_iff.mp q2.1
 have e2:as=0:=beq_iff_eq.mp q2.2
 rw [if_pos rfl,List.cons_append,List.append_assoc] at h
 exact ⟨t,it,by rw [e1,e2],by have q4:=q3.1; rwa [Bool.not_eq_true'] at q4,q3.2,h⟩
theorem zoH (ih:SE W rc) {e:Expr} {gs:List Comprehension} {sc:Scope} {pos:Pos} (h:Run W d (zcR rc cx e gs sc++k) st ρ H Q) (hA:zaw d A) (hS:W.Sat K X H s) (F:zau W K X cx env ρ) :
  wpAny W.M A (eval (.ListComp e gs sc pos) env) (PR W d k st ρ Q K X) NoE s:=by
 obtain ⟨t,it,rfl,hb1,hb2,h⟩:=zhw h
 have L:=lc_f hb2
 obtain ⟨hs,h⟩:=Run.inv h
 obtain ⟨hclos,fr⟩:=zhy L F hs
 rw [eval_ListComp]
 refine wpAny_comprehension_free (use:=none) rfl (ze2 hb1) hclos L.kind L.loc ?_
 refine wpAny_mono (ze9 ih hb1 (fun args H' hn hr=>lc_G hn hr) h hA hS F) (fun x s₁ h₁=>wpAny_mono h₁ (fun iv s₂ p=>?_) fun _ _ e=>e) fun _ _ e=>e
 obtain ⟨K2,X2,H2,args,l,I,Fp,P,rfl,le,S2,hX,hF,hsrc,⟨J,J0,hJ,hlen,turn,cont⟩,itr,hP⟩:=p
 refine zh8 ih L hA le S2 hX hF itr hP (zfn hb1) J0 hJ hlen turn (fun K' X' C m a b c d=>fr K' X' C m a b c d) (RR:=fun acc C=>compPost W.M A NoE none _ acc C) fun D C s' K' X' H' acc vs n B=>?_
 obtain ⟨m,kn⟩:=B.hC
 refine ⟨m,kn.ns B.sat,fun h' hs'=>?_⟩
 have T:=B.hand hs'
 exact ⟨K',.ref D,_,B.le,T.2,Rep.ref_iff.mpr rfl,cont acc H' B.len B.j D T.1⟩
end
section
variable {W:Wx} {rc:Rc} {d:Nat} {cx:Cx} {k:List I} {st:List V} {ρ:Ro} {H:Hp} {Q:Out→Prop} {A:Around} {s:Shared} {K X:Fz} {env:Env}
theorem za4 {α:Type} {t:Sem α} {Q':α→Shared→Prop} {E:Value→Shared→Prop} (h:Run W d (I.bad::k) st ρ H Q):wpAny W.M A t Q' E s:=h.off
theorem zep (ih:SE W rc) (it:ST W rc):SE W (zcL rc):=by
 intro d cx e k st ρ H Q h A s K X env hA hS F
 induction e using Expr.casesOn
 case Constant c kk pos=>exact zoE h hS
 case Name x pos=>exact ziW h hS F
 case Attribute e f pos=>exact zoA ih h hA hS F
 case Call f args kws pos =>
  induction kws using List.casesOn with
  | nil=>exact zoC ih h hA hS F
  | cons _ _=>exact za4 h
 case BinOp l op r pos=>exact zoB ih h hA hS F
 case UnaryOp op e pos =>
  induction op
  case Not=>exact zoK ih it h hA hS F
  case USub=>exact zoJ ih h hA hS F
  all_goals exact za4 h
 case BoolOp op vs pos =>
  rw [arm_eval_BoolOp]
  exact zfy ih h hA hS F
 case Compare l ops cs pos=>exact zoD ih h hA hS F
 case IfExp t a b pos=>exact zoG ih it h hA hS F
 case Tuple es kk pos=>exact zoM ih h hA hS F
 case List es pos=>exact zoI ih h hA hS F
 case Dict ks vs pos=>exact zoF ih h hA hS F
 case Subscript o i pos=>exact zoL ih h hA hS F
 case ListComp e gs sc pos=>exact zoH ih h hA hS F
 all_goals exact za4 h
theorem zp4 (ih:SE W rc) {e:Expr} (he:∀ w,isTrue e env w=(do let v ← w; standAt e.pos; holding [v] (truthy v))) (h:Run W d (rc cx e++.chk::k) st ρ H Q) (hA:zaw d A) (hS:W.Sat K X H s) (F:zau W K X cx env ρ) :
  wpAny W.M A (isTrue e env (eval e env)) (PB W d k st ρ Q K X) NoE s:=by
 refine wpAny_isTrue_value (wpAny_mono (ih _ _ _ _ _ _ _ _ h _ _ _ _ _ hA hS F) (fun v s' ⟨K',x,H',le,hS',rv,hr⟩=>?_) fun _ _ e=>e) (he _)
 obtain ⟨b,rfl,hq⟩:=Run.inv hr
 obtain rfl:=Rep.bool_iff.mp rv
 exact zc6 ⟨K',H',le,hS',hq⟩
theorem zjt (ih:SE W rc) (it:ST W rc):ST W (zcL rc):=by
 intro d cx e k st ρ H Q h A s K X env hA hS F
 have SEs:=zep ih it
 have val:∀ (_:zh2 e=false) (_:zhZ e=false),(∀ w,isTrue e env w=(do let v ← w; standAt e.pos; holding [v] (truthy v))) →
   wpAny W.M A (isTrue e env (eval e env)) (PB W d k st ρ Q K X) NoE s:=fun h1 h2 he=>by
  unfold zbb at h
  rw [h1,h2] at h
  simp only [Bool.false_eq_true,if_false,List.append_assoc,List.singleton_append] at h
  exact zp4 SEs he h hA hS F
 induction e using Expr.casesOn
 case UnaryOp op e pos =>
  induction op
  case Not =>
   have h':Run W d (zbb rc cx e++(.notb::k)) st ρ H Q:=by
    have:Run W d ((zbb rc cx e++[.notb])++k) st ρ H Q:=h
    rwa [List.append_assoc] at this
   rw [arm_isTrue_UnaryOp]
   refine wpAny_bind (wpAny_mono (it _ _ _ _ _ _ _ _ h' _ _ _ _ _ hA hS F) (fun b s' ⟨K',H',le,hS',hr⟩=>?_) fun _ _ e=>e)
   exact wpAny_pure ⟨K',H',le,hS',hr.iNot⟩
  all_goals exact val rfl rfl fun _=>rfl
 case BoolOp op vs pos =>
  rw [arm_isTrue_BoolOp]
  exact zfH it h hA hS F
 case IfExp t a b pos=>exact za4 h
 case Compare l ops cs pos =>
  have h':Run W d (zcE rc cx l ops cs++(.chk::k)) st ρ H Q:=by
   have:Run W d ((zcE rc cx l ops cs++[.chk])++k) st ρ H Q:=h
   rwa [List.append_assoc] at this
  refine wpAny_mono (zp3 ih h' (fun hr=>by obtain ⟨b,e,_⟩:=Run.inv hr; exact ⟨b,e⟩) hA hS F) (fun b s' ⟨K',H',le,hS',hr⟩=>?_) fun _ _ e=>e
  exact ⟨K',H',le,hS',hr.iChk⟩
 all_goals exact val rfl rfl fun _=>rfl
theorem zfB:∀ n,SE W (zdh n)∧ST W (zdh n)
 | 0=>⟨fun d cx e k st ρ H Q h A s K X env hA hS F=>za4 h,fun d cx e k st ρ H Q h A s K X env hA hS F=>by
   unfold zbb at h
   split at h
   ·exact za4 h
   ·split at h
    ·exact za4 h
    ·exact za4 h⟩
 | n+1=>let ⟨a,b⟩:=zfB n; ⟨zep a b,zjt a b⟩
end
section
variable {W:Wx} {rc:Rc} {d:Nat} {cx:Cx} {k:List I} {st:List V} {ρ:Ro} {H:Hp} {Q:Out→Prop} {A:Around} {s:Shared} {K X:Fz} {env:Env}
inductive RetT (W:Wx) (env:Env) (Q:Out→Prop) (K X:Fz) (fl:Flow) (s':Shared):Prop
 | mk (v:Value) (x:V) (K' X':Fz) (H':Hp) (e:fl=.ret v) (le:Le K K') (eX:∀ b,b≠env.locals→X' b=X b) (hS:W.Sat K' X' H' s') (rv:Rep K' x v) (q:Q (.ret x H'))
noncomputable def XT (W:Wx) (d:Nat) (k:List I) (cx:Cx) (env:Env) (Q:Out→Prop) (K X:Fz) (fl:Flow) (s':Shared):Prop:=
 (fl=.next∧AT W d k cx env [] Q K X s')∨RetT W env Q K X fl s'
theorem XT.up {K' X':Fz} {fl:Flow} (h:Le K K') (e:∀ b,b≠env.locals→X' b=X b) (p:XT W d k cx env Q K' X' fl s):XT W d k cx env Q K X fl s:=by
 rcases p with ⟨a,p⟩ | ⟨v,x,K2,X2,H2,a,b,c,h1,h2,h3⟩
 ·exact .inl ⟨a,p.up h e⟩
 ·exact .inr ⟨v,x,K2,X2,H2,a,h.trans b,fun y hy=>(c y hy).trans (e y hy),h1,h2,h3⟩
noncomputable def SX (W:Wx) (sc:Sc):Prop:=∀ d cx t k ρ H Q,Run W d (sc cx t++k) [] ρ H Q→∀ A s K X env,zaw d A→W.Sat K X H s→zau W K X cx env ρ→wpAny W.M A (exec t env) (XT W d k cx env Q K X) NoE s
theorem zer {sc:Sc} (ix:SX W sc) (hA:zaw d A):∀ {ss:List Stmt} {ρ H} {K X:Fz} {s:Shared},Run W d (zbo sc cx ss++k) [] ρ H Q→W.Sat K X H s→zau W K X cx env ρ→wpAny W.M A (execs ss env) (XT W d k cx env Q K X) NoE s
 | [],ρ,H,K,X,s,h,hS,F=>by
  rw [arm_execs_nil]
  exact wpAny_pure (.inl ⟨rfl,K,X,H,ρ,Le.rfl,fun _ _=>rfl,hS,F,h⟩)
 | t::r,ρ,H,K,X,s,h,hS,F=>by
  unfold zbo at h
  rw [List.append_assoc] at h
  rw [arm_execs_cons]
  refine wpAny_bind (zaO (ix _ _ _ _ _ _ _ h _ _ _ _ _ hA hS F) fun fl s' p=>?_)
  rcases p with ⟨rfl,K',X',H',ρ',le,eX,S',F',h'⟩ | ⟨v,x,K2,X2,H2,rfl,h1,h2,h3,h4,h5⟩
  ·exact zaO (zer ix hA h' S' F') fun _ _ q=>q.up le eX
  ·exact wpAny_pure (.inr ⟨v,x,K2,X2,H2,rfl,h1,h2,h3,h4,h5⟩)
theorem at_T (ih:SE W rc) (hA:zaw d A) {t:Expr} {x:V} {v:Value} (h:Run W d (zdi rc cx t++k) (x::st) ρ H Q) (rv:Rep K x v) (hS:W.Sat K X H s) (F:zau W K X cx env ρ) :
  wpAny W.M A (assign t env v) (fun _ s'=>AT W d k cx env st Q K X s') NoE s:=by
 unfold zdi at h
 split at h
 ·rename_i o f pos
  split at h
  ·rename_i i hi
   rw [List.append_assoc,List.singleton_append] at h
   rw [assign_Attribute]
   refine wpAny_bind (wpAny_holding (zaO (ih _ _ _ _ _ _ _ _ h _ _ _ _ _ hA hS F) fun ov s1 ⟨K1,y,H1,le1,S1,ry,hr⟩=>?_))
   obtain ⟨R,hop,hk⟩:=Run.inv hr
   have:=hop A s1 K1 X [v,ov] hA S1 (zaf.cons (rv.le le1) (zaf.cons ry zaf.nil))
   rw [zhI hi] at this
   refine wpAny_bind (wpAny_standAt (wpAny_bind (wpAny_holding (zaO this fun _ s2 ⟨K2,H2,le2,S2,hR⟩=>zes ?_))))
   exact ⟨K2,X,H2,ρ,le1.trans le2,fun _ _=>rfl,S2,(F.le le1).le le2,hk _ hR⟩
  ·exact za4 h
 ·rename_i o i pos
  have key:Run W d (rc cx o++(rc cx i++(.sidx::k))) (x::st) ρ H Q→wpAny W.M A (assign (.Subscript o i pos) env v) (fun _ s'=>AT W d k cx env st Q K X s') NoE s:=fun h=>by
   rw [assign_Subscript]
   refine wpAny_bind (wpAny_holding (zaO (ih _ _ _ _ _ _ _ _ h _ _ _ _ _ hA hS F) fun ov s1 ⟨K1,y,H1,le1,S1,ry,hr⟩=>?_))
   refine wpAny_bind (wpAny_holding (zaO (ih _ _ _ _ _ _ _ _ hr _ _ _ _ _ hA S1 (F.le le1)) fun iv s2 ⟨K2,z,H2,le2,S2,rz,hr2⟩=>?_))
   obtain ⟨R,hop,hk⟩:=Run.inv hr2
   refine wpAny_bind (wpAny_standAt (wpAny_bind (wpAny_holding (zaO (hop A s2 K2 X [v,ov,iv] hA S2 (zaf.cons (rv.le (le1.trans le2)) (zaf.cons (ry.le le2) (zaf.cons rz zaf.nil)))) fun _ s3 ⟨K3,H3,le3,S3,hR⟩=>zes ?_))))
   exact ⟨K3,X,H3,ρ,(le1.trans le2).trans le3,fun _ _=>rfl,S3,((F.le le1).le le2).le le3,hk _ hR⟩
  split at h
  ·exact za4 h
  ·simp only [List.append_assoc,List.singleton_append] at h
   exact key h
 ·exact zdL hA 8 h rv hS F
theorem zhx:∀ {es:List Expr},zdP rc cx es=es.flatMap (zdi rc cx)
 | []=>rfl
 | t::r=>by unfold zdP; rw [zhx,List.flatMap_cons]
theorem at_A (ih:SE W rc) (hA:zaw d A) {t:Expr} {x:V} {v:Value} (h:Run W d (zcQ rc cx t++k) (x::st) ρ H Q) (rv:Rep K x v) (hS:W.Sat K X H s) (F:zau W K X cx env ρ) :
  wpAny W.M A (assign t env v) (fun _ s'=>AT W d k cx env st Q K X s') NoE s:=by
 unfold zcQ at h
 split at h
 ·split at h
  ·exact za4 h
  ·rename_i es kk pos hst
   rw [zhx] at h
   exact zfW hA (by simpa using hst) (fun t _=>at_T ih hA) h rv hS F
 ·exact at_T ih hA h rv hS F
end
section
variable {W:Wx} {rc:Rc} {sc:Sc} {d:Nat} {cx:Cx} {k:List I} {st:List V} {ρ:Ro} {H:Hp} {Q:Out→Prop} {A:Around} {s:Shared} {K X:Fz} {env:Env}
theorem XT.of_at {s':Shared} (h:AT W d k cx env [] Q K X s'):XT W d k cx env Q K X .next s':=.inl ⟨rfl,h⟩
theorem zp8 (ih:SE W rc) {e pos} (h:Run W d ((if zhY e then [.bad] else rc cx e++[.pop])++k) [] ρ H Q) (hA:zaw d A) (hS:W.Sat K X H s) (F:zau W K X cx env ρ) :
  wpAny W.M A (exec (.Expr e pos) env) (XT W d k cx env Q K X) NoE s:=by
 split at h
 ·exact za4 h
 rename_i hc
 rw [List.append_assoc,List.singleton_append] at h
 refine wpAny_Expr_any (wpAny_mono (ih _ _ _ _ _ _ _ _ h _ _ _ _ _ hA hS F) (fun v s' ⟨K',x,H',le,S',rv,hr⟩=>?_) fun _ _ e=>e) (by unfold interactive; rw [F.kind]; rfl) ?_
 ·exact .of_at ⟨K',X,H',ρ,le,fun _ _=>rfl,S',F.le le,hr.iPop⟩
 ·rcases e with _ | _ <;> first | rfl | (exact absurd rfl hc)
theorem zqc (ih:SE W rc) {v pos} (h:Run W d (zcb rc cx v++[.ret]++k) [] ρ H Q) (hA:zaw d A) (hS:W.Sat K X H s) (F:zau W K X cx env ρ) :
  wpAny W.M A (exec (.Return v pos) env) (XT W d k cx env Q K X) NoE s:=by
 rw [List.append_assoc,List.singleton_append] at h
 induction v with
 | none =>
  unfold zcb at h
  rw [List.singleton_append] at h
  exact wpAny_Return_none (.inr ⟨_,.none,K,X,H,rfl,Le.rfl,fun _ _=>rfl,hS,Rep.none_iff.mpr rfl,h.iLit.iRet⟩)
 | some e =>
  refine wpAny_Return_some (wpAny_mono (ih _ _ _ _ _ _ _ _ h _ _ _ _ _ hA hS F) (fun v s' ⟨K',x,H',le,S',rv,hr⟩=>?_) fun _ _ e=>e)
  exact .inr ⟨_,x,K',X,H',rfl,le,fun _ _=>rfl,S',rv,hr.iRet⟩
theorem zqa (it:ST W rc) (ix:SX W sc) {t b e pos} (h:Run W d (zbb rc cx t++[.ite (zbo sc cx b) (zbo sc cx e)]++k) [] ρ H Q) (hA:zaw d A) (hS:W.Sat K X H s) (F:zau W K X cx env ρ) :
  wpAny W.M A (exec (.If t b e pos) env) (XT W d k cx env Q K X) NoE s:=by
 rw [List.append_assoc,List.singleton_append] at h
 rw [arm_exec_If]
 refine wpAny_bind (wpAny_standAt (wpAny_bind (wpAny_mono (it _ _ _ _ _ _ _ _ h _ _ _ _ _ hA hS F) (fun c s' ⟨K',H',le,S',hr⟩=>?_) fun _ _ e=>e)))
 replace hr:=hr.iIte
 induction c
 ·exact zaO (zer ix hA hr S' (F.le le)) fun _ _ p=>p.up le fun _ _=>rfl
 ·exact zaO (zer ix hA hr S' (F.le le)) fun _ _ p=>p.up le fun _ _=>rfl
theorem zfJ (ix:SX W sc) (hA:zaw d A) {ss:List Stmt} (h:Run W d (zbo sc cx ss) [] ρ H Q) (hS:W.Sat K X H s) (F:zau W K X cx env ρ) :
  wpAny W.M A (execs ss env) (XT W d [] cx env Q K X) NoE s:=by
 rw [← List.append_nil (zbo sc cx ss)] at h
 exact zer ix hA h hS F
inductive WhI (W:Wx) (cx:Cx) (env:Env) (K X:Fz) (J:Nat→Ro→Hp→Prop) (n:Nat) (s':Shared):Prop
 | mk (K' X':Fz) (H':Hp) (ρ':Ro) (le:Le K K') (eX:∀ b,b≠env.locals→X' b=X b) (hS:W.Sat K' X' H' s') (F:zau W K' X' cx env ρ') (j:J n ρ' H')
theorem zqe (it:ST W rc) (ix:SX W sc) {t b e pos} (h:Run W d ((if e.isEmpty then [.whl (zbb rc cx t) (zbo sc cx b)] else [.bad])++k) [] ρ H Q) (hA:zaw d A) (hS:W.Sat K X H s) (F:zau W K X cx env ρ) :
  wpAny W.M A (exec (.While t b e pos) env) (XT W d k cx env Q K X) NoE s:=by
 split at h
 ·rename_i he
  obtain rfl:e=[]:=by simpa using he
  rw [List.singleton_append] at h
  obtain ⟨S,hR,J,B,N,Z,n,j0,ht,hb,hN,hZ⟩:=Run.inv h
  refine wpAny_While (codeAny_whileLoop (WhI W cx env K X J) ?_ n ⟨K,X,H,ρ,Le.rfl,fun _ _=>rfl,hS,F,j0⟩)
  rintro n s' ⟨K',X',H',ρ',le,eX,S',F',j⟩
  have h1:=hR _ _ _ _ _ (ht n ρ' H' j)
  rw [← List.append_nil (zbb rc cx t)] at h1
  refine zaO (it _ _ _ _ _ _ _ _ h1 _ _ _ _ _ hA S' F') fun c s1 ⟨K1,H1,le1,S1,hr⟩=>?_
  replace hr:=hr.iNil
  induction c
  ·simp only [Bool.false_eq_true,if_false]
   obtain ⟨_,hn⟩:=hr
   exact wpAny_execs_nil (.of_at ⟨K1,X',H1,ρ',le.trans le1,eX,S1,F'.le le1,hR _ _ _ _ _ (hN _ _ hn)⟩)
  ·simp only [if_true]
   obtain ⟨_,hb'⟩:=hr
   refine zaO (zfJ ix hA (hR _ _ _ _ _ (hb n ρ' H1 hb')) S1 (F'.le le1)) fun fl s2 p=>?_
   rcases p with ⟨rfl,K2,X2,H2,ρ2,le2,eX2,S2,F2,r2⟩ | ⟨v,x,K2,X2,H2,rfl,le2,eX2,S2,rv,z⟩
   ·obtain ⟨m,hm,j2⟩:=r2.iNil
    exact ⟨m,hm,K2,X2,H2,ρ2,(le.trans le1).trans le2,fun y hy=>(eX2 y hy).trans (eX y hy),S2,F2,j2⟩
   ·exact .inr ⟨v,x,K2,X2,H2,rfl,(le.trans le1).trans le2,fun y hy=>(eX2 y hy).trans (eX y hy),S2,rv,hZ _ _ z⟩
 ·exact za4 h
end
section
variable {W:Wx} {rc:Rc} {sc:Sc} {d:Nat} {cx:Cx} {k:List I} {st:List V} {ρ:Ro} {H:Hp} {Q:Out→Prop} {A:Around} {s:Shared} {K X:Fz} {env:Env}
theorem zau.move {X':Fz} (F:zau W K X cx env ρ) (h:∀ c oc,X c=some oc→(c=env.locals∨∃ v,oc.data=.cell v)→X' c=some oc):zau W K X' cx env ρ:=
 let ⟨m,⟨o,es,ep,a,b⟩,c⟩:=F.ns
 ⟨F.names,F.kind,F.glob,F.blt,F.nd,F.len,⟨m,⟨o,es,ep,h _ _ a (.inl rfl),b⟩,fun i x q=>(c i x q).step rfl fun c oc v e e2=>h _ _ e (.inr ⟨_,e2⟩)⟩,F.base⟩
inductive FrG (W:Wx) (d:Nat) (k:List I) (ρ:Ro) (Q:Out→Prop) (kd:Kd) (t b:List I) (args:List V) (H:Hp) (l:List V):Prop
 | mk (J:Nat→Ro→Hp→Prop) (Z:V→Hp→Prop) (j0:J 0 ρ H) (src:∀ i ρ H,i≤l.length→J i ρ H→Src H kd args l)
  (turn:∀ i x ρ H,l[i]?=some x→J i ρ H→Run W d (t++b) [x] ρ H (fun o=>match o with | .nxt [] ρ' H'=>J (i+1) ρ' H' | .ret v H'=>Z v H' | _=>False))
  (cont:∀ ρ H,J l.length ρ H→Run W d k [] ρ H Q) (hZ:∀ v H,Z v H→Q (.ret v H))
theorem fr_G {kd:Kd} {t b:List I} {n:Nat} {args:List V} (hn:args.length=n) (h:Run W d (.fr kd n t b::k) (args.reverse++[]) ρ H Q):∃ l,Src H kd args l∧FrG W d k ρ Q kd t b args H l:=by
 obtain ⟨S,hS,st',l,args',J,Z,h1,h2,h3,h4,h5,h6,h7⟩:=Run.inv h
 obtain ⟨e1,e2⟩:=List.append_inj h2 (by simp [h1,hn])
 subst e2
 have e1:=List.reverse_inj.mp e1
 subst e1
 exact ⟨l,h4 0 ρ H (Nat.zero_le _) h3,J,Z,h3,h4,fun i x ρ H q r=>hS _ _ _ _ _ (h5 i x ρ H q r),fun ρ H q=>hS _ _ _ _ _ (h6 ρ H q),h7⟩
inductive ForI (W:Wx) (cx:Cx) (env:Env) (K2 X:Fz) (Fp:Addr→Prop) (P:Nat→Fz→Fz→Prop) (J:Nat→Ro→Hp→Prop) (l:List V) (n:Nat) (s':Shared):Prop
 | mk (i:Nat) (K' X':Fz) (H':Hp) (ρ':Ro) (hn:n=l.length+1 - i) (hi:i≤l.length) (le:Le K2 K') (hS:W.Sat K' X' H' s') (p:P i K' X') (j:J i ρ' H') (F:zau W K' X' cx env ρ') (eX:∀ b,¬ Fp b→b≠env.locals→X' b=X b)
theorem zp9 (ih:SE W rc) (ix:SX W sc) {t it b e pos} (h:Run W d ((if e.isEmpty && !zb5 cx t it then zcF rc cx it++[.fr (zbj cx it) (zce cx it) (zbi 8 cx t) (zbo sc cx b)] else [.bad])++k) [] ρ H Q) (hA:zaw d A) (hS:W.Sat K X H s) (F:zau W K X cx env ρ) :
  wpAny W.M A (exec (.For t it b e pos) env) (XT W d k cx env Q K X) NoE s:=by
 split at h
 ·rename_i he
  simp only [Bool.and_eq_true,Bool.not_eq_true',List.isEmpty_iff] at he
  obtain ⟨rfl,hb⟩:=he
  rw [List.append_assoc,List.singleton_append] at h
  refine wpAny_For (zaO (ze9 ih hb (fun args H' hn hr=>fr_G hn hr) h hA hS F) fun x s₁ h₁=>zaO h₁ fun iv s₂ p=>?_) (ze2 hb)
  obtain ⟨K2,X2,H2,args,l,I,Fp,P,rfl,le,S2,hX,hF,hsrc,⟨J,Z,J0,hJ,turn,cont,hZ⟩,itr,hP⟩:=p
  have nF:∀ b o,X b=some o→¬ Fp b:=fun b o e f=>by rw [hF b f] at e; injection e
  have nL:¬ Fp env.locals:=by obtain ⟨m,⟨o,es,ep,a,_⟩,_⟩:=F.ns; exact nF _ _ a
  have zaE:∀ {K' X' Xr:Fz} {H':Hp} {s':Shared},W.Sat K' Xr H' s'→Xr env.locals=X' env.locals→(∀ b,¬ Fp b→b≠env.locals→Xr b=X b)→W.Sat K' (fun b=>if b=env.locals then X' b else X b) H' s':=fun S' e1 e2=>by
   refine Sat.drop S' fun b o q=>?_
   by_cases z:b=env.locals
   ·rw [show (if b=env.locals then _ else X b)=_ from if_pos z] at q
    rw [z] at q ⊢; rw [e1]; exact q
   ·rw [show (if b=env.locals then _ else X b)=_ from if_neg z] at q
    rw [e2 b (nF b o q) z]; exact q
  refine codeAny_forLoop_any (ForI W cx env K2 X Fp P J l) ?_ (l.length+1)
   ⟨0,K2,X2,H2,ρ,rfl,Nat.zero_le _,Le.rfl,S2,hP,J0,(F.le le).leX fun b o e=>(hX b (nF b o e)).trans e,fun b hb _=>hX b hb⟩
  rintro n s' ⟨i,K',X',H',ρ',rfl,hi,le',S',P',j',F',eX'⟩
  have mv:∀ {X1:Fz},(∀ b,¬ Fp b→X1 b=X' b)→∀ c oc,X' c=some oc→(c=env.locals∨∃ v,oc.data=.cell v)→X1 c=some oc:=fun e c oc q hc=>by
   refine (e c ?_).trans q
   rcases hc with rfl | ⟨v,hv⟩
   ·exact nL
   ·exact fun f=>itr.nocell _ _ _ _ _ _ P' f q hv
  by_cases hlt:i < l.length
  ·refine zaO (itr.next A s' K' X' H' i t hA.handled S' P' (hJ i ρ' H' hi j') hlt (zfn hb)) fun r s₁ ⟨v,e,hgo⟩=>?_
   subst e
   refine zaO hgo fun _ s₁' ⟨K1,X1,x,hx,rv,le1,eX1,P1,S1⟩=>?_
   have F1:zau W K1 X1 cx env ρ':=(F'.le le1).move (mv eX1)
   refine zaO (zdL hA 8 (turn i x ρ' H' hx j') rv S1 F1) fun _ s₃ ⟨K3,X3,H3,ρ3,le3,eX3,S3,F3,run3⟩=>?_
   refine zaO (zfJ ix hA run3 S3 F3) fun fl s4 p=>?_
   rcases p with ⟨rfl,K4,X4,H4,ρ4,le4,eX4,S4,F4,r4⟩ | ⟨v,x,K4,X4,H4,rfl,le4,eX4,S4,rv4,z⟩
   ·refine ⟨l.length+1 - (i+1),Nat.sub_lt_sub_left (Nat.lt_succ_of_le hi) (Nat.lt_succ_self i),i+1,K4,X4,H4,ρ4,rfl,hlt,((le'.trans le1).trans le3).trans le4,S4,itr.loc _ _ _ _ _ P1 (le3.trans le4) fun b hb=>?_,r4.iNil,F4,fun b hb hL=>?_⟩
    ·have hL:b≠env.locals:=fun q=>nL (q ▸ hb)
     rw [eX4 b hL,eX3 b hL]
    ·rw [eX4 b hL,eX3 b hL,eX1 b hb,eX' b hb hL]
   ·exact .inr ⟨v,x,K4,_,H4,rfl,(((le.trans le').trans le1).trans le3).trans le4,fun b hb=>if_neg hb,zaE (X':=X4) S4 rfl fun b hb hL=>by rw [eX4 b hL,eX3 b hL,eX1 b hb,eX' b hb hL],rv4,hZ _ _ z⟩
  ·have hin:i=l.length:=by exact zad (.i (.l Va Vb) (.i (.n (.t Va Vb)) (.e Va Vb))) rfl hi hlt
   subst hin
   refine zaO (itr.done A s' K' X' H' hA.handled S' P' (hJ _ ρ' H' hi j')) fun r s₁ ⟨e,X1,eX1,_,S1⟩=>?_
   subst e
   refine wpAny_execs_nil (.of_at ⟨K',fun b=>if b=env.locals then X' b else X b,H',ρ',le.trans le',fun b hb=>if_neg hb,zaE S1 (eX1 _ nL) fun b hb hL=>by rw [eX1 b hb,eX' b hb hL],F'.move fun c oc q hc=>?_,cont _ _ j'⟩)
   by_cases z:c=env.locals
   ·rw [show (if c=env.locals then X' c else X c)=_ from if_pos z]; exact q
   ·rw [show (if c=env.locals then X' c else X c)=_ from if_neg z]
    have hc':¬ Fp c:=by
     rcases hc with rfl | ⟨v,hv⟩
     ·exact nL
     ·exact fun f=>itr.nocell _ _ _ _ _ _ P' f q hv
    rw [← eX' c hc' z]; exact q
 ·exact za4 h
end
section
variable {W:Wx} {rc:Rc} {sc:Sc} {d:Nat} {cx:Cx} {k:List I} {st:List V} {ρ:Ro} {H:Hp} {Q:Out→Prop} {A:Around} {s:Shared} {K X:Fz} {env:Env}
theorem zqb (ih:SE W rc) {e:Expr} {gs:List Comprehension} {sc:Scope} {pos p spos:Pos} {y:Str} {i:Nat} (hy:cx.names.lookup y=some .local) (hi:place? cx.vars y=some i)
  (hsw:swapsWith (.ListComp e gs sc pos) (some (.Name y p)) spos.line env=pure true) (h:Run W d (zcR rc cx e gs sc++(.sto i::k)) [] ρ H Q) (hA:zaw d A) (hS:W.Sat K X H s) (F:zau W K X cx env ρ) :
  wpAny W.M A (exec (.Assign [.Name y p] (.ListComp e gs sc pos) spos) env) (XT W d k cx env Q K X) NoE s:=by
 obtain ⟨t,it,rfl,hb1,hb2,h⟩:=zhw h
 have L:=lc_f hb2
 obtain ⟨hs,h⟩:=Run.inv h
 obtain ⟨hclos,fr⟩:=zhy L F hs
 rw [exec_Assign_Name_used _ _ _ _ hsw]
 refine wpAny_bind (wpAny_standAt (wpAny_bind ?_))
 show wpAny _ A (do let _ ← comprehension (.ListComp e [⟨t,it,[],0⟩] sc pos) sc env _ (newList []) false (eval it env) (some (assign (.Name y p) env))) _ _ s
 refine wpAny_bind (zaO (wpAny_comprehension_free (use:=some (assign (.Name y p) env)) (Q:=fun _ s'=>XT W d k cx env Q K X .next s') rfl (ze2 hb1) hclos L.kind L.loc ?_) fun _ s' hq=>wpAny_pure (wpAny_pure hq))
 refine zaO (ze9 ih hb1 (fun args H' hn hr=>lc_G hn hr) h hA hS F) fun x s₁ h₁=>zaO h₁ fun iv s₂ p=>?_
 obtain ⟨K2,X2,H2,args,l,I,Fp,P,rfl,le,S2,hX,hF,hsrc,⟨J,J0,hJ,hlen,turn,cont⟩,itr,hP⟩:=p
 refine zh8 ih L hA le S2 hX hF itr hP (zfn hb1) J0 hJ hlen turn (fun K' X' C m a b c d=>fr K' X' C m a b c d) (RR:=fun acc C=>compPost W.M A NoE (some (assign (.Name y _) env)) _ acc C) fun D C s' K' X' H' acc vs n B=>?_
 obtain ⟨m,o,es,ep,kn,kn2⟩:=B.hC
 obtain ⟨mL,⟨oL,_,_,eL,_⟩,_⟩:=F.ns
 have nLC:env.locals≠C:=fun q=>by rw [q,B.xC] at eL; injection eL
 have nLD:env.locals≠D:=fun q=>by rw [q,B.xD] at eL; injection eL
 have eD:(fun b=>if b=D then none else X' b) D=none:=if_pos rfl
 have S3:=Sat.thaw B.sat B.hD (X':=fun b=>if b=D then none else X' b) (fun b o q=>by
  by_cases z:b=D
  ·have q':(if b=D then none else X' b)=some o:=q
   rw [if_pos z] at q'; injection q'
  ·have q':(if b=D then none else X' b)=some o:=q
   rw [if_neg z] at q'; exact q') eD (m:=.list acc) (fun _ _ e=>nomatch e) (Heap.SameBut.refl ..) (fun D'=>⟨vs,n,B.sat.keepX _ _ B.hD,B.reps⟩) (t:=s'.toks)
 have run:=cont acc H' B.len B.j D S3.1
 replace run:=(Run.inv run).2
 have F3:zau W K' (fun b=>if b=D then none else X' b) cx env ρ:=(F.le B.le).leX fun b o e=>by
  show (if b=D then none else X' b)=_
  rw [if_neg (fun q=>by rw [q,B.xD] at e; injection e)]; exact B.leX b o e
 show wpAny _ A (assign (.Name y _) env (.ref D)) _ _ _
 refine wpAny_assign_Name (zdM hy hi (Rep.ref_iff.mpr rfl) S3.2 F3 fun s3 X3 eX3 S4 F4=>?_)
 have x3:∀ b,b≠env.locals→b≠C→b≠D→X3 b=X b:=fun b h1 h2 h3=>by
  rw [eX3 b h1,if_neg h3,B.eqX b h2 h3]
 have x3C:X3 C=some o:=by rw [eX3 C nLC.symm,if_neg B.ne.symm]; exact kn
 have x3D:X3 D=none:=by rw [eX3 D nLD.symm]; exact if_pos rfl
 refine ⟨m,⟨o,es,ep,S4.keepX _ _ x3C,kn2⟩,fun h' hs'=>.of_at ⟨K',fun b=>if b=env.locals then X3 b else X b,_,_,B.le,fun b hb=>if_neg hb,?_,F4.move fun c oc q hc=>?_,run⟩⟩
 ·refine Sat.ext S4 (F:=(·=C)) (fun b hb=>⟨o,hb ▸ x3C⟩) (fun b o hb q=>hs'.extBut b o hb q) Le.rfl (fun b o q=>.inl q) (fun b ob q=>?_) (t:=s3.toks)
  have q3:b≠C∧X3 b=some ob:=by
   by_cases z:b=env.locals
   ·have q:(if b=env.locals then X3 b else X b)=some ob:=q
    rw [if_pos z] at q
    exact ⟨fun w=>nLC (z.symm.trans w),q⟩
   ·have q:(if b=env.locals then X3 b else X b)=some ob:=q
    rw [if_neg z] at q
    have h2:b≠C:=fun w=>by rw [w,B.xC] at q; injection q
    have h3:b≠D:=fun w=>by rw [w,B.xD] at q; injection q
    exact ⟨h2,(x3 b z h2 h3).trans q⟩
  exact ⟨S4.apart _ _ q3.2,hs'.extBut _ _ q3.1 (S4.keepX _ _ q3.2),.inl (by rw [q3.2]; simp)⟩
 ·by_cases z:c=env.locals
  ·rw [show (if c=env.locals then X3 c else X c)=_ from if_pos z]; exact q
  ·rw [show (if c=env.locals then X3 c else X c)=_ from if_neg z]
   have h2:c≠C:=fun w=>by
    rcases hc with w' | ⟨v,hv⟩
    ·exact z w'
    ·rw [w,x3C] at q; (injection q with q; subst q); rw [kn2.1] at hv; injection hv
   have h3:c≠D:=fun w=>by rw [w,x3D] at q; injection q
   rw [← x3 c z h2 h3]; exact q
end
section
variable {W:Wx} {rc:Rc} {sc:Sc} {d:Nat} {cx:Cx} {k:List I} {st:List V} {ρ:Ro} {H:Hp} {Q:Out→Prop} {A:Around} {s:Shared} {K X:Fz} {env:Env}
theorem zp6 (v t:Expr) (line:Nat) (env:Env):(∃ e gs sc pos y p,v=.ListComp e gs sc pos∧t=.Name y p∧swapsWith v (some t) line env=pure true)∨swapsWith v (some t) line env=pure false∨(∀ rc cx,zcL rc cx v=[.bad]):=by
 rcases v with _ | _ <;> try exact .inr (.inl rfl)
 ·rename_i e gs sc pos
  rcases t with _ | _ <;> try exact .inr (.inl rfl)
  rename_i y p
  have e0:swapsWith (.ListComp e gs sc pos) (some (.Name y p)) line env=pure (env.blockKind == .function && env.kindOf y == some .local && p.line == (Expr.ListComp e gs sc pos).pos.line
   && !(sc.names.any fun (n,k)=>n == y && (k == .local || k == .cell))):=rfl
  rw [e0]
  cases (env.blockKind == .function && env.kindOf y == some .local && p.line == (Expr.ListComp e gs sc pos).pos.line && !(sc.names.any fun (n,k)=>n == y && (k == .local || k == .cell)))
  ·exact .inr (.inl rfl)
  ·exact .inl ⟨_,_,_,_,_,_,rfl,rfl,rfl⟩
 ·exact .inr (.inr fun _ _=>rfl)
 ·exact .inr (.inr fun _ _=>rfl)
theorem zp1 {t v:Expr} (h:(zcH t && zcH v)=false) (h2:zdC t v=false):swappedStores [t] v env=pure none:=by
 rcases t with _ | _ <;> try rfl
 ·injection h2
 ·rcases v with _ | _ <;> first | rfl | exact tf h
theorem zjv (ih:SE W rc) {t v:Expr} {pos:Pos} (hs:swapsWith v (some t) pos.line env=pure false) (hw:swappedStores [t] v env=pure none) (h:Run W d (rc cx v++(zcQ rc cx t++k)) [] ρ H Q) (hA:zaw d A) (hS:W.Sat K X H s) (F:zau W K X cx env ρ) :
  wpAny W.M A (exec (.Assign [t] v pos) env) (XT W d k cx env Q K X) NoE s:=by
 refine wpAny_Assign_stores (zaO (ih _ _ _ _ _ _ _ _ h _ _ _ _ _ hA hS F) fun vv s1 ⟨K1,x,H1,le1,S1,rv,hr⟩=>?_) hs hw
 have key:wpAny W.M A (assign t env vv) (fun _ s'=>XT W d k cx env Q K X .next s') NoE s1:=zaO (at_A ih hA hr rv S1 (F.le le1)) fun _ s2 p=>.of_at (p.up le1 fun _ _=>rfl)
 clear hs hw h
 rcases t with _ | _ <;> first | exact key | (exact za4 hr)
theorem zkS {α β:Type} {f:α→Option β} {a b:α} (h:(List.filterMap f [a,b]).length=2):∃ x y,f a=some x∧f b=some y∧List.filterMap f [a,b]=[x,y]:=by
 induction ha:f a with
 | none=>rcases hb:f b with _ | _ <;> simp [ha,hb] at h
 | some x =>
  induction hb:f b with
  | none=>simp [ha,hb] at h
  | some y=>exact ⟨x,y,rfl,rfl,by simp [ha,hb]⟩
theorem zp2 {ts vs:List Expr} {kk k':Nat} {p p':Pos} (h:zdC (.Tuple ts kk p) (.Tuple vs k' p')=false):swappedStores [.Tuple ts kk p] (.Tuple vs k' p') env=pure none ∨
  ∃ x y p1 p2,ts=[.Name x p1,.Name y p2]∧x≠y∧env.kindOf x=some .local∧env.kindOf y=some .local∧swappedStores [.Tuple ts kk p] (.Tuple vs k' p') env=pure (some [x,y]):=by
 have e:swappedStores [.Tuple ts kk p] (.Tuple vs k' p') env=(if (!(ts.length == 2 || ts.length == 3) || vs.length != ts.length || env.blockKind != .function)=true then pure none else if (vs.any fun | .Starred ..=>true | _=>false)=true then pure none else
  let line:=(ts.head?.map (·.pos.line)).getD 0
  let names:=ts.filterMap fun | .Name id pos=>if env.kindOf id == some .local && pos.line == line then some id else none | _=>none
  if (names.length != ts.length || names.eraseDups.length != names.length)=true then pure none else if (vs.all (foldedForSure 8))=true then pure none else if (vs.all (constantsAlone 8))=true then unsupported "assign.tuple-of-constant-expressions:order-of-the-stores" else pure (some names)):=rfl
 rw [e]
 replace h:(ts.length == 3 || (vs.all (constantsAlone 8) && !vs.all (foldedForSure 8)))=false:=h
 simp only [Bool.or_eq_false_iff,Bool.and_eq_false_iff,Bool.not_eq_false'] at h
 split
 ·exact .inl rfl
 rename_i c1
 split
 ·exact .inl rfl
 dsimp only
 split
 ·exact .inl rfl
 rename_i c3
 split
 ·exact .inl rfl
 rename_i c4
 split
 ·rename_i c5
  rcases h.2 with h | h
  ·rw [h] at c5; injection c5
  ·exact absurd h c4
 ·refine .inr ?_
  simp only [Bool.or_eq_true,bne_iff_ne,not_or,Decidable.not_not] at c3
  have hl:ts.length=2:=by
   simp only [Bool.or_eq_true,Bool.not_eq_true',not_or,Bool.not_eq_false] at c1
   have:=c1.1.1
   rw [h.1] at this
   simpa using this
  obtain ⟨a,b,rfl⟩:∃ a b,ts=[a,b]:=by
   rcases ts with _ | ⟨a,_ | ⟨b,_ | ⟨c,r⟩⟩⟩ <;> simp at hl
   exact ⟨a,b,rfl⟩
  obtain ⟨x,y,h1,h2,h3⟩:=zkS (c3.1.trans hl)
  rw [h3] at c3 ⊢
  have nm:∀ {a:Expr} {x:Str} {line:Nat},(match a with | .Name id pos=>if (env.kindOf id == some .local && pos.line == line)=true then some id else none | _=>none)=some x→∃ q,a=.Name x q∧env.kindOf x=some .local:=by
   intro a x line h
   rcases a with _ | _ <;> try injection h
   rename_i id pos
   dsimp only at h
   split at h
   ·rename_i c
    (injection h with h; subst h)
    exact ⟨pos,rfl,zb7 (Bool.and_eq_true_iff.mp c).1⟩
   ·injection h
  obtain ⟨q1,rfl,l1⟩:=nm h1
  obtain ⟨q2,rfl,l2⟩:=nm h2
  refine ⟨x,y,q1,q2,rfl,fun q=>?_,l1,l2,rfl⟩
  subst q
  have:=c3.2
  simp [List.eraseDups,List.eraseDupsBy,List.eraseDupsBy.loop] at this
end
section
variable {W:Wx} {rc:Rc} {sc:Sc} {d:Nat} {cx:Cx} {k:List I} {st:List V} {ρ:Ro} {H:Hp} {Q:Out→Prop} {A:Around} {s:Shared} {K X:Fz} {env:Env}
theorem zjw {x:Str} {p:Pos} {x':V} (h:Run W d (zbi 8 cx (.Name x p)++k) (x'::st) ρ H Q):∃ i,cx.names.lookup x=some .local∧place? cx.vars x=some i∧Run W d k st (ρ.set i (some x')) H Q:=by
 replace h:Run W d ((if cx.names.lookup x == some .local then (match place? cx.vars x with | some i=>[.sto i] | none=>[.bad]) else [.bad])++k) _ ρ H Q:=h
 by_cases hx:(cx.names.lookup x == some .local)=true
 ·rw [if_pos hx] at h
  rcases hi:place? cx.vars x with _ | i <;> rw [hi] at h
  ·exact h.off
  ·exact ⟨i,beq_iff_eq.mp hx,rfl,(Run.inv h).2⟩
 ·rw [if_neg hx] at h; exact h.off
theorem zqd (ih:SE W rc) {x y:Str} {p1 p2 p pos:Pos} {kk:Nat} {v:Expr} (hs:swapsWith v (some (.Tuple [.Name x p1,.Name y p2] kk p)) pos.line env=pure false)
  (hw:swappedStores [.Tuple [.Name x p1,.Name y p2] kk p] v env=pure (some [x,y])) (hne:x≠y) (h:Run W d (rc cx v++(zcQ rc cx (.Tuple [.Name x p1,.Name y p2] kk p)++k)) [] ρ H Q) (hA:zaw d A) (hS:W.Sat K X H s) (F:zau W K X cx env ρ) :
  wpAny W.M A (exec (.Assign [.Tuple [.Name x p1,.Name y p2] kk p] v pos) env) (XT W d k cx env Q K X) NoE s:=by
 refine PyProof.Rows.Assign_Tuple_swapped (names:=[x,y]) (zaO (ih _ _ _ _ _ _ _ _ h _ _ _ _ _ hA hS F) fun vv s1 ⟨K1,xv,H1,le1,S1,rv,hr⟩=>?_) hs hw
 have hr':Run W d (.unp 2::(zbi 8 cx (.Name x p1)++(zbi 8 cx (.Name y p2)++k))) [xv] ρ H1 Q:=by
  have:Run W d ((.unp 2::(zbi 8 cx (.Name x p1)++(zbi 8 cx (.Name y p2)++[])))++k) [xv] ρ H1 Q:=hr
  simpa only [List.cons_append,List.append_assoc,List.append_nil,List.nil_append] using this
 obtain ⟨l,rfl,hl,hq⟩:=Run.inv hr'
 obtain ⟨a,b,rfl⟩:∃ a b,l=[a,b]:=by
  rcases l with _ | ⟨a,_ | ⟨b,_ | ⟨c,r⟩⟩⟩ <;> simp at hl
  exact ⟨a,b,rfl⟩
 obtain ⟨i,hx,hi,hr'⟩:=zjw hq
 obtain ⟨j,hy,hj,hr'⟩:=zjw hr'
 obtain ⟨t,n,vs,rfl,e1,r⟩:=Rep.tup_iff.mp rv
 have hz:[x,y].length=vs.size:=by rw [zaX r]; rfl
 rw [hz]
 refine wpAny_unpackItems_tuple hA.handled ⟨_,S1.keep _ _ e1,rfl,_,rfl⟩ fun h' hx'=>?_
 have S2:W.Sat K1 X H1 { s1 with heap:=h' }:=by
  refine Sat.ext S1 (F:=fun _=>False) (fun _ f=>f.elim) (fun b o _ q=>hx' b o (Nat.ne_of_lt (ltS q)) q) Le.rfl (fun b o q=>.inl q) (fun b o q=>⟨S1.apart _ _ q,hx' b o (Nat.ne_of_lt (ltS (S1.keepX _ _ q))) (S1.keepX _ _ q),.inl (za5 q)⟩) (t:=s1.toks)
 obtain ⟨v1,r1,ev,ra,rr⟩:=zaf.cons_iff.mp r
 obtain ⟨v2,r2,ev2,rb,rr2⟩:=zaf.cons_iff.mp rr
 rw [ev,ev2,zaf.nil_iff.mp rr2]
 show wpAny _ _ (do holding [v1] (bindName env y v2); do holding [] (bindName env x v1); pure ()) _ _ _
 refine wpAny_bind (wpAny_holding (wpAny_bindName (zdM hy hj rb S2 (F.le le1) fun s3 X3 eX3 S3 F3=>?_)))
 refine wpAny_bind (wpAny_holding (wpAny_bindName (zdM hx hi ra S3 F3 fun s4 X4 eX4 S4 F4=>wpAny_pure ?_)))
 have nij:i≠j:=fun q=>hne (Option.some.inj ((zcf hi).symm.trans (by rw [q]; exact zcf hj)))
 have hF4:zau W K1 X4 cx env ((ρ.set i (some a)).set j (some b)):=by rw [List.set_comm _ _ nij]; exact F4
 exact .of_at ⟨K1,X4,H1,_,le1,fun c hc=>(eX4 c hc).trans (eX3 c hc),S4,hF4,hr'⟩
theorem zp7 (ih':SE W rc) (it':ST W rc) {t v:Expr} {pos:Pos} (h:Run W d ((if (zdC t v || zfc cx t v)=true then [.bad] else zcL rc cx v++zcQ (zcL rc) cx t)++k) [] ρ H Q) (hA:zaw d A) (hS:W.Sat K X H s) (F:zau W K X cx env ρ) :
  wpAny W.M A (exec (.Assign [t] v pos) env) (XT W d k cx env Q K X) NoE s:=by
 have ih:=zep ih' it'
 split at h
 ·exact za4 h
 rename_i hth
 obtain ⟨hth,hlb⟩:zdC t v=false∧zfc cx t v=false:=by simpa using hth
 rw [List.append_assoc] at h
 rcases zp6 v t pos.line env with ⟨e,gs,sc',pos',y,p,rfl,rfl,hsw⟩ | hsw | hbad
 ·have h':Run W d (zcR rc cx e gs sc'++(zbi 8 cx (.Name y p)++k)) [] ρ H Q:=h
  have hl:(cx.names.lookup y == some .local && (place? cx.vars y).isSome)=true:=by
   have:(!(cx.names.lookup y == some .local && (place? cx.vars y).isSome))=false:=hlb
   simpa using this
  simp only [Bool.and_eq_true] at hl
  have hy:=zb7 hl.1
  obtain ⟨i,hi⟩:=Option.isSome_iff_exists.mp hl.2
  replace h':Run W d (zcR rc cx e gs sc'++((if cx.names.lookup y == some .local then (match place? cx.vars y with | some i=>[.sto i] | none=>[.bad]) else [.bad])++k)) [] ρ H Q:=h'
  rw [if_pos hl.1,hi] at h'
  exact zqb ih' hy hi hsw h' hA hS F
 ·by_cases htt:(zcH t && zcH v)=true
  ·simp only [Bool.and_eq_true] at htt
   obtain ⟨ts,kk,p,rfl⟩:=zdY htt.1
   obtain ⟨vs,k',p',rfl⟩:=zdY htt.2
   rcases zp2 (env:=env) hth with hw | ⟨x,y,p1,p2,rfl,hne,l1,l2,hw⟩
   ·exact zjv ih hsw hw h hA hS F
   ·exact zqd ih hsw hw hne h hA hS F
  ·exact zjv ih hsw (zp1 (by simpa using htt) hth) h hA hS F
 ·rw [hbad] at h
  exact za4 h
theorem zp5 (ih':SE W rc) (it':ST W rc) (ix:SX W sc):SX W (zjs (zcL rc) sc):=by
 intro d cx t k ρ H Q h A s K X env hA hS F
 have ih:=zep ih' it'
 have it:=zjt ih' it'
 induction t using Stmt.casesOn
 case Assign ts v pos =>
  rcases ts with _ | ⟨t,_ | ⟨_,_⟩⟩
  ·exact za4 h
  ·exact zp7 ih' it' h hA hS F
  ·exact za4 h
 case Expr e pos=>exact zp8 ih h hA hS F
 case Return v pos=>exact zqc ih h hA hS F
 case If t b e pos=>exact zqa it ix h hA hS F
 case While t b e pos=>exact zqe it ix h hA hS F
 case For t it b e pos=>exact zp9 ih ix h hA hS F
 case Pass pos=>exact wpAny_Pass (.of_at ⟨K,X,H,ρ,Le.rfl,fun _ _=>rfl,hS,F,h⟩)
 all_goals exact za4 h
theorem zi1:∀ n,SX W (zdO n)
 | 0=>fun d cx t k ρ H Q h A s K X env hA hS F=>za4 h
 | n+1=>zp5 (rc:=zdh 19) (zfB 19).1 (zfB 19).2 (zi1 n)
end
section
variable {W:Wx} {d:Nat} {H:Hp} {R:V→Hp→Prop}
theorem zjD {K:Fz} {x:Str} {y:V}:∀ {ps:List Str} {args:List V} {vs:List Value},zaf K args vs→(ps.zip args).lookup x=some y→∃ v,(ps.zip vs).lookup x=some v∧Rep K y v
 | [],_,_,_,h=>by simp at h
 | _::_,[],_,_,h=>by simp at h
 | p::ps,a::args,vs,r,h=>by
  obtain ⟨v,r',rfl,rv,rr⟩:=zaf.cons_iff.mp r
  rw [List.zip_cons_cons,List.lookup_cons] at h ⊢
  induction q:x == p with
  | true=>rw [q] at h; (injection h with h; subst h); exact ⟨v,rfl,rv⟩
  | false=>rw [q] at h; exact zjD rr h
structure zbY (P:Params) (fa i j:Nat) (ps:List Str):Prop where
 fn:∃ qual dV pm c t,(KF P).lookup fa=some (fo i j qual dV pm (.ref c))∧(CA.zip CQ).lookup c=some (some (.str qual t)) ∧
  ∀ (s:Shared) (vs:List Value),(KF P).In s.heap→vs.length=ps.length→BindsTo s (fnOf (zb3 (dg i j)) qual (zcd (dg i j)) (zbL (dg i j)) (zaL (dg i j)) dV .none .none pm none (.ref c) .none) ⟨vs,[]⟩ (ps.zip vs)
 kind:(zaL (dg i j)).kind=.function
 nocell:∀ x ∈ (zaL (dg i j)).names,x.2≠.cell
 co:(zaL (dg i j)).isCoroutine=false
 gen:(zaL (dg i j)).isGenerator=false
 loc:∀ x ∈ ps,(zaL (dg i j)).names.lookup x=some .local
 nd:ps.Nodup
 vnd:(zcq (dg i j)).vars.Nodup
noncomputable def ro0 (i j:Nat) (ps:List Str) (args:List V):Ro:=(zcq (dg i j)).vars.map fun x=>(ps.zip args).lookup x
noncomputable def zan (R:V→Hp→Prop):Out→Prop | .nxt [] _ H'=>R .none H' | .ret v H'=>R v H' | _=>False
end
noncomputable def zaA (st:Stmt):List Str:=(zcd st).args.map (·.arg)
noncomputable abbrev fnI (i j:Nat) (qual:Str) (dV pm:Value) (c:Addr):FuncData:=fnOf (zb3 (dg i j)) qual (zcd (dg i j)) (zbL (dg i j)) (zaL (dg i j)) dV .none .none pm none (.ref c) .none
noncomputable def zby (i j:Nat) (ps:List Str):Bool:=(zaL (dg i j)).kind == .function && (zaL (dg i j)).names.all (fun x=>x.2 != .cell) && !(zaL (dg i j)).isCoroutine && !(zaL (dg i j)).isGenerator &&
 ps.all (fun x=>(zaL (dg i j)).names.lookup x == some .local) && zcw ps && zcw (zcq (dg i j)).vars
theorem zcG {P:Params} {fa i j:Nat} {ps:List Str} (h:zby i j ps=true) (f:∃ qual dV pm c t,(KF P).lookup fa=some (fo i j qual dV pm (.ref c))∧(CA.zip CQ).lookup c=some (some (.str qual t)) ∧
  ∀ (s:Shared) (vs:List Value),(KF P).In s.heap→vs.length=ps.length→BindsTo s (fnOf (zb3 (dg i j)) qual (zcd (dg i j)) (zbL (dg i j)) (zaL (dg i j)) dV .none .none pm none (.ref c) .none) ⟨vs,[]⟩ (ps.zip vs)):zbY P fa i j ps:=by
 unfold zby at h
 simp only [Bool.and_eq_true,List.all_eq_true,Bool.not_eq_true'] at h
 obtain ⟨⟨⟨⟨⟨⟨h1,h2⟩,h3⟩,h4⟩,h5⟩,h6⟩,h7⟩:=h
 refine ⟨f,?_,fun x hx q=>?_,h3,h4,fun x hx=>zb7 (h5 x hx),zcX h6,zcX h7⟩
 ·revert h1; rcases (zaL (dg i j)).kind with _ | _ <;> simp
 ·have:=h2 x hx; rw [q] at this; injection this
theorem zaN {α:Type} {n:Nat} {l:List α} (h:l.length=n+1):∃ a r,l=a::r∧r.length=n:=by
 induction l using List.casesOn with
 | nil=>injection h
 | cons a r=>exact ⟨a,r,rfl,Nat.succ.inj h⟩
theorem zbN {α:Type} {l:List α} (h:l.length=0):l=[]:=List.eq_nil_of_length_eq_zero h
theorem df1 {P:Params} {fa i j:Nat} {qual:Str} {dV pm:Value} {c:Addr} {t:Tok} (h:zby i j (zaA (dg i j))=true) (e:(KF P).lookup fa=some (fo i j qual dV pm (.ref c))) (e2:(CA.zip CQ).lookup c=some (some (.str qual t))) (hn:(zaA (dg i j)).length=1)
  (b:∀ a0,bindArgs (fnI i j qual dV pm c) ⟨[a0],[]⟩=pure ((zaA (dg i j)).zip [a0])):zbY P fa i j (zaA (dg i j)):=
 zcG h ⟨_,_,_,_,_,e,e2,fun s vs hK h=>by
  obtain ⟨a0,r0,rfl,z0⟩:=zaN (h.trans hn)
  obtain rfl:=zbN z0
  exact .of_eq (b _)⟩
theorem df2 {P:Params} {fa i j:Nat} {qual:Str} {dV pm:Value} {c:Addr} {t:Tok} (h:zby i j (zaA (dg i j))=true) (e:(KF P).lookup fa=some (fo i j qual dV pm (.ref c))) (e2:(CA.zip CQ).lookup c=some (some (.str qual t))) (hn:(zaA (dg i j)).length=2)
  (b:∀ a0 a1,bindArgs (fnI i j qual dV pm c) ⟨[a0,a1],[]⟩=pure ((zaA (dg i j)).zip [a0,a1])):zbY P fa i j (zaA (dg i j)):=
 zcG h ⟨_,_,_,_,_,e,e2,fun s vs hK h=>by
  obtain ⟨a0,r0,rfl,z0⟩:=zaN (h.trans hn)
  obtain ⟨a1,r1,rfl,z1⟩:=zaN z0
  obtain rfl:=zbN z1
  exact .of_eq (b _ _)⟩
theorem df3 {P:Params} {fa i j:Nat} {qual:Str} {dV pm:Value} {c:Addr} {t:Tok} (h:zby i j (zaA (dg i j))=true) (e:(KF P).lookup fa=some (fo i j qual dV pm (.ref c))) (e2:(CA.zip CQ).lookup c=some (some (.str qual t))) (hn:(zaA (dg i j)).length=3)
  (b:∀ a0 a1 a2,bindArgs (fnI i j qual dV pm c) ⟨[a0,a1,a2],[]⟩=pure ((zaA (dg i j)).zip [a0,a1,a2])):zbY P fa i j (zaA (dg i j)):=
 zcG h ⟨_,_,_,_,_,e,e2,fun s vs hK h=>by
  obtain ⟨a0,r0,rfl,z0⟩:=zaN (h.trans hn)
  obtain ⟨a1,r1,rfl,z1⟩:=zaN z0
  obtain ⟨a2,r2,rfl,z2⟩:=zaN z1
  obtain rfl:=zbN z2
  exact .of_eq (b _ _ _)⟩
theorem df4 {P:Params} {fa i j:Nat} {qual:Str} {dV pm:Value} {c:Addr} {t:Tok} (h:zby i j (zaA (dg i j))=true) (e:(KF P).lookup fa=some (fo i j qual dV pm (.ref c))) (e2:(CA.zip CQ).lookup c=some (some (.str qual t))) (hn:(zaA (dg i j)).length=4)
  (b:∀ a0 a1 a2 a3,bindArgs (fnI i j qual dV pm c) ⟨[a0,a1,a2,a3],[]⟩=pure ((zaA (dg i j)).zip [a0,a1,a2,a3])):zbY P fa i j (zaA (dg i j)):=
 zcG h ⟨_,_,_,_,_,e,e2,fun s vs hK h=>by
  obtain ⟨a0,r0,rfl,z0⟩:=zaN (h.trans hn)
  obtain ⟨a1,r1,rfl,z1⟩:=zaN z0
  obtain ⟨a2,r2,rfl,z2⟩:=zaN z1
  obtain ⟨a3,r3,rfl,z3⟩:=zaN z2
  obtain rfl:=zbN z3
  exact .of_eq (b _ _ _ _)⟩
theorem df5 {P:Params} {fa i j:Nat} {qual:Str} {dV pm:Value} {c:Addr} {t:Tok} (h:zby i j (zaA (dg i j))=true) (e:(KF P).lookup fa=some (fo i j qual dV pm (.ref c))) (e2:(CA.zip CQ).lookup c=some (some (.str qual t))) (hn:(zaA (dg i j)).length=5)
  (b:∀ a0 a1 a2 a3 a4,bindArgs (fnI i j qual dV pm c) ⟨[a0,a1,a2,a3,a4],[]⟩=pure ((zaA (dg i j)).zip [a0,a1,a2,a3,a4])):zbY P fa i j (zaA (dg i j)):=
 zcG h ⟨_,_,_,_,_,e,e2,fun s vs hK h=>by
  obtain ⟨a0,r0,rfl,z0⟩:=zaN (h.trans hn)
  obtain ⟨a1,r1,rfl,z1⟩:=zaN z0
  obtain ⟨a2,r2,rfl,z2⟩:=zaN z1
  obtain ⟨a3,r3,rfl,z3⟩:=zaN z2
  obtain ⟨a4,r4,rfl,z4⟩:=zaN z3
  obtain rfl:=zbN z4
  exact .of_eq (b _ _ _ _ _)⟩
theorem zkB (P:Params):zbY P 910 76 9 (zaA (dg 76 9)):=zcG (by kernel_rfl) ⟨_,_,_,_,_,rfl,rfl,fun s vs hK h=>by
  have h:vs.length=3:=h
  obtain ⟨a0,r0,rfl,z0⟩:=zaN h
  obtain ⟨a1,r1,rfl,z1⟩:=zaN z0
  obtain ⟨a2,r2,rfl,z2⟩:=zaN z1
  obtain rfl:=zbN z2
  exact BindsTo.of_defaults rfl (hK _ _ rfl) rfl rfl rfl⟩
theorem zkw (P:Params):zbY P 1228 85 0 (zaA (dg 85 0)):=zcG (by kernel_rfl) ⟨_,_,_,_,_,rfl,rfl,fun s vs hK h=>by
  have h:vs.length=6:=h
  obtain ⟨a0,r0,rfl,z0⟩:=zaN h
  obtain ⟨a1,r1,rfl,z1⟩:=zaN z0
  obtain ⟨a2,r2,rfl,z2⟩:=zaN z1
  obtain ⟨a3,r3,rfl,z3⟩:=zaN z2
  obtain ⟨a4,r4,rfl,z4⟩:=zaN z3
  obtain ⟨a5,r5,rfl,z5⟩:=zaN z4
  obtain rfl:=zbN z5
  exact BindsTo.of_defaults rfl (hK _ _ rfl) rfl rfl rfl⟩
noncomputable def mOk (P:Params):Bool:=zd4.all fun p=>(findIn (KF P) (.ref p.1) (zbv p.2.1) == some (some (.ref p.2.2))) && (typeIn (KF P) (.ref p.2.2) == some (.type "function")) && zdg.contains p.1 && (zdV p.1).all fun f=>zaM f != zbv p.2.1
theorem m_ok (P:Params):mOk P=true:=by kernel_rfl
theorem zhK {P:Params} {K:Fz} {m:Str}:∀ {fs:List (Nat × V)} {es:List DictEntry},zbh P K es fs→(∀ p ∈ fs,(zaM p.1 == m)=false)→es.find? (fun e=>e.key.isStr m)=none
 | [],_,h,_=>by rw [show (_:List DictEntry)=[] from h]; rfl
 | (i,y)::fs,_,⟨e,r,rfl,⟨t,hk⟩,_,_,h⟩,hl=>by
  have hb:e.key.isStr m=false:=by rw [hk]; exact hl _ (.head _)
  rw [List.find?_cons,hb]
  exact zhK h fun p hp=>hl p (.tail _ hp)
theorem zmL {W:Wx} {d:Nat} {H:Hp} {a C m f:Nat} {fs:List (Nat × V)} (hm:(C,m,f) ∈ zd4) (e:H a=some (.inst C fs)):zc9 W d (zbv m) (.ref a) H (.ref f):=by
 intro A s K X v pl hA hS rv Q hQ
 obtain rfl:=Rep.ref_iff.mp rv
 obtain ⟨D,O⟩:=hS.objs
 obtain ⟨h1,es,n,h2,h3,h4⟩:=O.at_ _ _ e
 have fa:=List.all_eq_true.mp (m_ok W.w.params) _ hm
 simp only [Bool.and_eq_true,beq_iff_eq,List.all_eq_true] at fa
 obtain ⟨⟨⟨f1,f2⟩,f3⟩,f4⟩:=fa
 have c:=zdN W.w.params (List.contains_iff_mem.mp f3)
 refine method_fn (W.frag hS) (ze6 h1 h2) c.ga c.gt f1 f2 ?_ hQ
 have miss:=zhK (m:=zbv m) h3 fun p hp=>by
  have:=f4 p.1 (List.contains_iff_mem.mp (h4 p hp))
  simpa using this
 have lk:lookIn (zbv m) (dictOf es n)=some none:=by
  unfold lookIn
  simp only [dictOf,miss,zhL h3]
  rfl
 unfold shadowIn
 simp only [lk]
 rfl
section
variable {W:Wx} {d:Nat} {H:Hp}
theorem zfh {a m:Nat} {l:List V} {id:String} (e:H a=some (.list l)) (slot:Slot "list" (zbv m) id) (hty:typeOf (.builtin id)=pure (.type "method_descriptor")):zc9 W d (zbv m) (.ref a) H (.builtin id):=by
 intro A s K X v pl hA hS rv Q hQ
 obtain rfl:=Rep.ref_iff.mp rv
 obtain ⟨vs,n,e1,r⟩:=hS.list e
 exact getMethod_builtin (za2 e1).typeIs F.plainAttrs_list slot hty (fun b q=>by (injection q with q; subst q); exact ⟨_,e1,rfl⟩) hQ
end
section
variable {W:Wx} {d:Nat} {H:Hp} {R:V→Hp→Prop}
structure zcy (P:Params) (fa i j:Nat) (ps:List Str) (nn:Nat) (ds:List V) (dv:List Value):Prop where
 fn:∃ qual dV pm c t,(KF P).lookup fa=some (fo i j qual dV pm (.ref c))∧(CA.zip CQ).lookup c=some (some (.str qual t)) ∧
  ∀ (s:Shared) (vs:List Value),(KF P).In s.heap→vs.length=nn→BindsTo s (fnOf (zb3 (dg i j)) qual (zcd (dg i j)) (zbL (dg i j)) (zaL (dg i j)) dV .none .none pm none (.ref c) .none) ⟨vs,[]⟩ (ps.zip (vs++dv))
 rds:∀ K,zaf K ds dv
 kind:(zaL (dg i j)).kind=.function
 co:(zaL (dg i j)).isCoroutine=false
 gen:(zaL (dg i j)).isGenerator=false
 loc:∀ x ∈ ps,(zaL (dg i j)).names.lookup x=some .local∨((zaL (dg i j)).names.lookup x=some .cell∧∀ n,((cellsFrom n (zaL (dg i j)).names []).lookup x).isSome=true)
 nd:ps.Nodup
 vnd:(zcq (dg i j)).vars.Nodup
theorem zf1 {k:Str→Option NameKind} {x:Str}:∀ (r:List (Str × Value)) (m:Str→Option Value),x ∉ r.map (·.1)→bindL k r m x=m x
 | [],_,_=>rfl
 | (n,v)::r,m,h=>by
  simp only [List.map_cons,List.mem_cons,not_or] at h
  unfold bindL
  rw [zf1 r _ h.2]
  split
  ·exact if_neg h.1
  ·rfl
theorem zfZ {k:Str→Option NameKind} {x:Str}:∀ (r:List (Str × Value)) (m:Str→Option Value),x ∉ r.map (·.1)→bindC k r m x=m x
 | [],_,_=>rfl
 | (n,v)::r,m,h=>by
  simp only [List.map_cons,List.mem_cons,not_or] at h
  unfold bindC
  rw [zfZ r _ h.2]
  split
  ·rfl
  ·exact if_neg h.1
theorem zf0 {k:Str→Option NameKind} {x:Str} {v:Value} (hk:k x=some .local):∀ (r:List (Str × Value)) (m:Str→Option Value),(r.map (·.1)).Nodup→r.lookup x=some v→bindL k r m x=some v
 | [],_,_,h=>by injection h
 | (n,w)::r,m,hn,h=>by
  simp only [List.map_cons,List.nodup_cons] at hn
  rw [List.lookup_cons] at h
  unfold bindL
  induction q:x == n with
  | true =>
   rw [q] at h; (injection h with h; subst h)
   have:=beq_iff_eq.mp q; subst this
   rw [zf1 r _ hn.1,if_pos hk]; exact if_pos rfl
  | false=>rw [q] at h; exact zf0 hk r _ hn.2 h
theorem zfY {k:Str→Option NameKind} {x:Str} {v:Value} (hk:k x≠some .local):∀ (r:List (Str × Value)) (m:Str→Option Value),(r.map (·.1)).Nodup→r.lookup x=some v→bindC k r m x=some v
 | [],_,_,h=>by injection h
 | (n,w)::r,m,hn,h=>by
  simp only [List.map_cons,List.nodup_cons] at hn
  rw [List.lookup_cons] at h
  unfold bindC
  induction q:x == n with
  | true =>
   rw [q] at h; (injection h with h; subst h)
   have:=beq_iff_eq.mp q; subst this
   rw [zfZ r _ hn.1,if_neg hk]; exact if_pos rfl
  | false=>rw [q] at h; exact zfY hk r _ hn.2 h
theorem zde {fa i j nn:Nat} {ps:List Str} {ds:List V} {dv:List Value} (D:zcy W.w.params fa i j ps nn ds dv) {args:List V} (hl:args.length=nn) (hn:nn+ds.length=ps.length)
  (h:Run W d (zbx i j) [] (ro0 i j ps (args++ds)) H (zan R)):zae W (d+1) (.ref fa) args H R:=by
 intro A s K X vs hA hS r0
 obtain ⟨qual,dV,pm,c,t,f1,f2,f3⟩:=D.fn
 have hcr:s.heap.CodeRec (.ref c) qual:=by
  obtain ⟨o,ws,a1,a2,a3⟩:=W.says.2 c _ f2
  exact ⟨c,o,ws,t,rfl,hS.stays _ _ a1,a2,a3⟩
 have r:zaf K (args++ds) (vs++dv):=r0.append (D.rds K)
 have hvs:vs.length=nn:=by rw [r0.length,hl]
 have hvs2:(vs++dv).length=ps.length:=by rw [r.length,List.length_append,hl,hn]
 have hfr:=Sat.fresh hS
 refine codeAny_call_function (fd:=fnOf (zb3 (dg i j)) qual (zcd (dg i j)) (zbL (dg i j)) (zaL (dg i j)) dV .none .none pm none (.ref c) .none) (body:=zbL (dg i j)) ?_ (W.frag hS _ _ f1) rfl D.co D.gen rfl hcr (f3 s vs (W.frag hS) hvs _ _ _ _ ?_)
 ·have:=hA.depth; unfold recursionLimit; exact zad (.i (.l (.a Va Vb) (.k 900)) (.t Va (.k 1000))) rfl this
 refine wpAny_newFunctionEnv_cells D.kind (fun x hx=>?_) fun env he s' x=>?_
 ·rcases D.loc _ (List.of_mem_zip hx).1 with h | h
  ·exact .inl h
  ·exact .inr ⟨h.1,h.2 _⟩
 have hkeep:=x.toInCall.keep
 refine ⟨(W.top.nolimit.keeps hS.stays).keeps hkeep,codeAny_func ?_⟩
 obtain ⟨h₁,tk,rfl,_⟩:=x.done
 obtain ⟨oL,es,ep,c1,c2⟩:=x.toInCall.ns
 have eL:env.locals=s.heap.objs.size:=by rw [he]; rfl
 have eN:env.scope=zaL (dg i j):=by rw [he]; rfl
 have eC:env.cells=cellsFrom (s.heap.objs.size+1) (zaL (dg i j)).names []:=by rw [he]; rfl
 generalize hXd:(fun b=>if b=s.heap.objs.size∨b ∈ env.cells.map (·.2) then h₁.get? b else X b:Fz)=X₁
 have X1:∀ b,X₁ b=if b=s.heap.objs.size∨b ∈ env.cells.map (·.2) then h₁.get? b else X b:=fun b=>by rw [← hXd]
 have new:∀ b,(b=s.heap.objs.size∨b ∈ env.cells.map (·.2))→@LE.le Nat instLENat s.heap.objs.size b:=fun b q=>by
  rcases q with rfl | q
  ·exact Nat.le_refl _
  ·obtain ⟨⟨n',c'⟩,hm,rfl⟩:=List.mem_map.mp q
   have:=x.above n' c' hm
   rw [eL] at this
   exact Nat.le_of_lt this
 have kN:∀ b,@LE.le Nat instLENat s.heap.objs.size b→K b=none∧X b=none:=fun b q=>by
  obtain ⟨i,rfl⟩:=Nat.exists_eq_add_of_le q
  have:=Sat.freshI hS i
  exact ⟨this.1,this.2.1⟩
 have S1:W.Sat K X₁ H { s with heap:=h₁,toks:=tk }:=by
  refine Sat.ext hS (F:=fun _=>False) (fun _ f=>f.elim) (fun b o _ q=>hkeep b o q) Le.rfl (fun b o q=>.inl q) (fun b ob q=>?_) (t:=tk)
  rw [X1] at q
  split at q
  ·rename_i z
   exact ⟨(kN b (new b z)).1,q,.inr (new b z)⟩
  ·exact ⟨hS.apart _ _ q,hkeep _ _ (hS.keepX _ _ q),.inl (za5 q)⟩
 have hb:W.h₀.get? s.heap.objs.size=none:=by
  induction q:W.h₀.get? s.heap.objs.size with
  | none=>rfl
  | some o=>have:=hS.base _ _ q; rw [hfr.1] at this; injection this
 have XL:X₁ env.locals=some oL:=by rw [X1,if_pos (.inl eL)]; exact c1
 have ndz:((ps.zip (vs++dv)).map (·.1)).Nodup:=by rw [List.map_fst_zip (by exact zad (.i (.e Va Vb) (.l Vb Va)) rfl hvs2)]; exact D.nd
 have F1:zau W K X₁ (zcq (dg i j)) env (ro0 i j ps (args++ds)):=by
  refine ⟨fun x=>.inl (by rw [eN]; rfl),by rw [eN]; exact D.kind,by rw [he]; rfl,by rw [he]; rfl,D.vnd,by unfold ro0; simp,⟨_,⟨oL,es,ep,XL,c2⟩,fun n y hx=>?_⟩,by rw [eL]; exact hb⟩
  unfold ro0
  rw [List.getElem?_map,hx]
  show zaZ _ _ _ _ _ ((ps.zip (args++ds)).lookup y)
  induction q:(ps.zip (args++ds)).lookup y with
  | none=>trivial
  | some z =>
   obtain ⟨v,hv,rv⟩:=zjD r q
   have hp:y ∈ ps:=(List.of_mem_zip (zcJ q)).1
   unfold zaZ
   rw [eN]
   rcases D.loc y hp with hl | hl
   ·rw [hl]
    exact ⟨v,zf0 (by show env.scope.names.lookup y=_; rw [eN]; exact hl) _ _ ndz hv,rv⟩
   ·rw [hl.1]
    obtain ⟨cc,hcc⟩:=Option.isSome_iff_exists.mp (hl.2 (s.heap.objs.size+1))
    obtain ⟨oc,o1,o2⟩:=x.cell y cc (by rw [eC]; exact hcc)
    refine ⟨cc,oc,v,by rw [eC]; exact hcc,?_,?_,rv⟩
    ·rw [X1,if_pos (.inr (by rw [eC]; exact List.mem_map.mpr ⟨_,mem_of_lookup hcc,rfl⟩))]
     exact o1
    ·rw [o2,zfY (by show env.scope.names.lookup y≠_; rw [eN,hl.1]; simp) _ _ ndz hv]
 have hR:zaw d (A.deeper env):=⟨hA.handled,by have:=hA.depth; show A.depth+1+10 * d≤900; lia,by have:=hA.units; show A.units+3+100 * d≤9000; lia⟩
 have dropX:∀ {K' X':Fz} {H':Hp} {s':Shared},(∀ b,b≠env.locals→X' b=X₁ b)→W.Sat K' X' H' s'→W.Sat K' X H' s':=fun e S'=>by
  refine Sat.drop S' fun b o q=>?_
  have lt:¬ @LE.le Nat instLENat s.heap.objs.size b:=fun z=>by rw [(kN b z).2] at q; injection q
  have hb:¬ (b=s.heap.objs.size∨b ∈ env.cells.map (·.2)):=fun z=>lt (new b z)
  rw [e b (by rw [eL]; exact fun z=>hb (.inl z)),X1,if_neg hb]; exact q
 refine zaO (zfJ (zi1 12) hR (show Run W d (zbo (zdO 12) (zcq (dg i j)) (zbL (dg i j))) [] _ _ _ from h) S1 F1) fun fl s' p=>?_
 rcases p with ⟨rfl,K',X',H',ρ',le,eX,S',_,q⟩ | ⟨v,x,K',X',H',rfl,le,eX,S',rv,q⟩
 ·exact ⟨.none,rfl,K',.none,H',le,dropX eX S',Rep.none_iff.mpr rfl,q.iNil⟩
 ·exact ⟨v,rfl,K',x,H',le,dropX eX S',rv,q⟩
theorem zj4 {fa i j:Nat} {ps:List Str} (D:zbY W.w.params fa i j ps) {args:List V} (hl:args.length=ps.length) (h:Run W d (zbx i j) [] (ro0 i j ps args) H (zan R)):zae W (d+1) (.ref fa) args H R:=by
 have D':zcy W.w.params fa i j ps ps.length [] []:=by
  refine ⟨?_,fun K=>zaf.nil,D.kind,D.co,D.gen,fun x hx=>.inl (D.loc x hx),D.nd,D.vnd⟩
  obtain ⟨qual,dV,pm,c,t,f1,f2,f3⟩:=D.fn
  exact ⟨qual,dV,pm,c,t,f1,f2,fun s vs h q=>by rw [List.append_nil]; exact f3 s vs h q⟩
 exact zde D' hl rfl (by rw [List.append_nil]; exact h)
end
theorem zeH {x:Str}:∀ (l:List (Str × NameKind)) (n m:Nat) (acc acc':List (Str × Addr)),(acc.lookup x).isSome=(acc'.lookup x).isSome→((cellsFrom n l acc).lookup x).isSome=((cellsFrom m l acc').lookup x).isSome
 | [],_,_,_,_,h=>h
 | (y,k)::r,n,m,acc,acc',h=>by
  unfold cellsFrom
  split
  ·refine zeH r _ _ _ _ ?_
   rw [List.lookup_cons,List.lookup_cons]
   induction x == y with
   | true=>rfl
   | false=>exact h
  ·exact zeH r _ _ _ _ h
noncomputable def zhC (i j:Nat) (ps:List Str):Bool:=(zaL (dg i j)).kind == .function && !(zaL (dg i j)).isCoroutine && !(zaL (dg i j)).isGenerator &&
 ps.all (fun x=>(zaL (dg i j)).names.lookup x == some .local || ((zaL (dg i j)).names.lookup x == some .cell && ((cellsFrom 0 (zaL (dg i j)).names []).lookup x).isSome)) && zcw ps && zcw (zcq (dg i j)).vars
theorem zdS {P:Params} {fa i j nn:Nat} {ps:List Str} {ds:List V} {dv:List Value} (h:zhC i j ps=true) (f:∃ qual dV pm c t,(KF P).lookup fa=some (fo i j qual dV pm (.ref c))∧(CA.zip CQ).lookup c=some (some (.str qual t)) ∧
  ∀ (s:Shared) (vs:List Value),(KF P).In s.heap→vs.length=nn→BindsTo s (fnOf (zb3 (dg i j)) qual (zcd (dg i j)) (zbL (dg i j)) (zaL (dg i j)) dV .none .none pm none (.ref c) .none) ⟨vs,[]⟩ (ps.zip (vs++dv)))
  (hd:∀ K,zaf K ds dv):zcy P fa i j ps nn ds dv:=by
 unfold zhC at h
 simp only [Bool.and_eq_true,List.all_eq_true,Bool.not_eq_true',Bool.or_eq_true] at h
 obtain ⟨⟨⟨⟨⟨h1,h3⟩,h4⟩,h5⟩,h6⟩,h7⟩:=h
 refine ⟨f,hd,?_,h3,h4,fun x hx=>?_,zcX h6,zcX h7⟩
 ·revert h1; rcases (zaL (dg i j)).kind with _ | _ <;> simp
 ·rcases h5 x hx with h | h
  ·exact .inl (zb7 h)
  ·exact .inr ⟨zb7 h.1,fun n=>(zeH _ n 0 [] [] rfl).trans h.2⟩
theorem zky (P:Params):zcy P 267 22 0 (zaA (dg 22 0)) 3 [] []:=zdS (by kernel_rfl) ⟨_,_,_,_,_,rfl,rfl,fun s vs hK h=>by
  obtain ⟨a0,r0,rfl,z0⟩:=zaN h
  obtain ⟨a1,r1,rfl,z1⟩:=zaN z0
  obtain ⟨a2,r2,rfl,z2⟩:=zaN z1
  obtain rfl:=zbN z2
  exact BindsTo.of_eq (by with_unfolding_all rfl)⟩ fun _=>zaf.nil
theorem zkz (P:Params):zcy P 293 22 4 (zaA (dg 22 4)) 3 [] []:=zdS (by kernel_rfl) ⟨_,_,_,_,_,rfl,rfl,fun s vs hK h=>by
  obtain ⟨a0,r0,rfl,z0⟩:=zaN h
  obtain ⟨a1,r1,rfl,z1⟩:=zaN z0
  obtain ⟨a2,r2,rfl,z2⟩:=zaN z1
  obtain rfl:=zbN z2
  exact BindsTo.of_eq (by with_unfolding_all rfl)⟩ fun _=>zaf.nil
theorem zkx (P:Params):zcy P 1555 98 1000 (zaA (dg 98 1000)) 4 [] []:=zdS (by kernel_rfl) ⟨_,_,_,_,_,rfl,rfl,fun s vs hK h=>by
  obtain ⟨a0,r0,rfl,z0⟩:=zaN h
  obtain ⟨a1,r1,rfl,z1⟩:=zaN z0
  obtain ⟨a2,r2,rfl,z2⟩:=zaN z1
  obtain ⟨a3,r3,rfl,z3⟩:=zaN z2
  obtain rfl:=zbN z3
  exact BindsTo.of_eq (by with_unfolding_all rfl)⟩ fun _=>zaf.nil
theorem zkA (P:Params):zcy P 846 76 0 (zaA (dg 76 0)) 1 [.none] [.none]:=zdS (by kernel_rfl) ⟨_,_,_,_,_,rfl,rfl,fun s vs hK h=>by
  obtain ⟨a0,r0,rfl,z0⟩:=zaN h
  obtain rfl:=zbN z0
  exact BindsTo.of_defaults rfl (hK _ _ rfl) rfl rfl rfl⟩ fun _=>zaf.cons (Rep.none_iff.mpr rfl) zaf.nil
noncomputable def iOk (P:Params):Bool:=itab.all fun p=>(findIn (KF P) (.ref p.1) "__init__" == some (some (.ref p.2))) && (typeIn (KF P) (.ref p.2) == some (.type "function")) && zdg.contains p.1
theorem i_ok (P:Params):iOk P=true:=by kernel_rfl
theorem zbw {W:Wx} {d C f:Nat} {H:Hp} {R:V→Hp→Prop} {args:List V} (hi:(C,f) ∈ itab) (h:∀ a,H a=none→zae W d (.ref f) (.ref a::args) (zab H a (.inst C [])) fun x H'=>x=.none∧R (.ref a) H'):zae W (d+1) (.ref C) args H R:=by
 intro A s K X vs hA hS r
 have fa:=List.all_eq_true.mp (i_ok W.w.params) _ hi
 simp only [Bool.and_eq_true,beq_iff_eq] at fa
 obtain ⟨⟨f1,f2⟩,f3⟩:=fa
 have c:=zdN W.w.params (List.contains_iff_mem.mp f3)
 have XK:=W.frag hS
 obtain ⟨hh,g,dr,t,os⟩:=s
 obtain ⟨hn,S1⟩:=Sat.allocI hS C (t:=t)
 refine make_core (makes_of XK c.mkI) (looks_findIn XK f1) (fun self=>bind_fn XK self f2) (.inl rfl) ?_
 refine codeAny_mono (h _ hn (A.under (.builtin "type.__call__" ⟨.ref C::vs,[]⟩)) ⟨(hh.push emptyDict).push (instObj C hh.objs.size),g,dr,t,os⟩ K X (.ref (hh.objs.size+1)::vs) ⟨hA.handled,?_,?_⟩ S1 (zaf.cons (Rep.ref_iff.mpr rfl) r)) fun rr s' p=>?_
 ·have:=hA.depth
  have e:(A.under (.builtin "type.__call__" ⟨.ref C::vs,[]⟩)).depth≤A.depth+1:=Nat.le_refl _
  lia
 ·have:=hA.units
  have e:(A.under (.builtin "type.__call__" ⟨.ref C::vs,[]⟩)).units≤A.units+10:=Nat.add_le_add_left (by decide:1≤10) A.units
  lia
 ·obtain ⟨v,rfl,K',x,H',le,S',rv,rfl,q⟩:=p
  obtain rfl:=Rep.none_iff.mp rv
  exact ⟨rfl,_,rfl,K',_,H',le,S',Rep.ref_iff.mpr rfl,q⟩
section
variable {W:Wx} {d:Nat} {H:Hp} {R:V→Hp→Prop}
theorem zc3 {K X:Fz} {s:Shared} {h':Heap} {t:Nat} (hS:W.Sat K X H s) (hk:∀ b o,s.heap.get? b=some o→h'.get? b=some o):W.Sat K X H { s with heap:=h',toks:=t }:=
 Sat.ext hS (F:=fun _=>False) (fun _ f=>f.elim) (fun b o _ q=>hk b o q) Le.rfl (fun b o q=>.inl q) (fun b ob q=>⟨hS.apart _ _ q,hk _ _ (hS.keepX _ _ q),.inl (za5 q)⟩) (t:=t)
theorem zaI.one {f:Value} {x:V} (h:∀ A s K X a,zaw d A→W.Sat K X H s→Rep K x a→wpAny W.M A (PySem.call f [a]) (zaY W K X R) NoE s):zaI W d f [x] H R:=by
 intro A s K X vs hA hS hr
 obtain ⟨a,r,rfl,h1,h2⟩:=zaf.cons_iff.mp hr
 rw [zaf.nil_iff.mp h2]
 exact h A s K X a hA hS h1
theorem zaI.two {f:Value} {x y:V} (h:∀ A s K X a b,zaw d A→W.Sat K X H s→Rep K x a→Rep K y b→wpAny W.M A (PySem.call f [a,b]) (zaY W K X R) NoE s):zaI W d f [x,y] H R:=by
 intro A s K X vs hA hS hr
 obtain ⟨a,r,rfl,h1,h2⟩:=zaf.cons_iff.mp hr
 obtain ⟨b,r,rfl,h3,h4⟩:=zaf.cons_iff.mp h2
 rw [zaf.nil_iff.mp h4]
 exact h A s K X a b hA hS h1 h3
theorem zaI.three {f:Value} {x y z:V} (h:∀ A s K X a b c,zaw d A→W.Sat K X H s→Rep K x a→Rep K y b→Rep K z c→wpAny W.M A (PySem.call f [a,b,c]) (zaY W K X R) NoE s):zaI W d f [x,y,z] H R:=by
 intro A s K X vs hA hS hr
 obtain ⟨a,r,rfl,h1,h2⟩:=zaf.cons_iff.mp hr
 obtain ⟨b,r,rfl,h3,h4⟩:=zaf.cons_iff.mp h2
 obtain ⟨c,r,rfl,h5,h6⟩:=zaf.cons_iff.mp h4
 rw [zaf.nil_iff.mp h6]
 exact h A s K X a b c hA hS h1 h3 h5
theorem zkl {a:Addr} {l:List V} (e:H a=some (.list l)) (hl:l.length≤1000000) (h:R (.int l.length) H):zaI W d (.builtin "len") [.ref a] H R:=
 zaI.one fun A s K X p hA hS rx=>by
  obtain rfl:=Rep.ref_iff.mp rx
  obtain ⟨vs,n,e1,r⟩:=hS.list e
  have hs:=zaX r
  refine call_len_list (za2 e1) (by rw [hs]; lia) ?_
  rw [hs]
  exact zax hS (Rep.int_iff.mpr ⟨_,rfl⟩) h
theorem zko {a b:Int} (h:R (.int (max a b)) H):zaI W d (.builtin "max") [.int a,.int b] H R:=
 zaI.two fun A s K X x y hA hS rx ry=>by
  obtain ⟨t,rfl⟩:=Rep.int_iff.mp rx
  obtain ⟨u,rfl⟩:=Rep.int_iff.mp ry
  refine max_two_ints hA.handled fun h' tk hk=>⟨K,.int (max a b),H,Le.rfl,zc3 hS hk,?_,h⟩
  split
  ·exact Rep.int_iff.mpr ⟨u,by congr 1; lia⟩
  ·exact Rep.int_iff.mpr ⟨t,by congr 1; lia⟩
theorem zkp {a b:Int} (h:R (.int (min a b)) H):zaI W d (.builtin "min") [.int a,.int b] H R:=
 zaI.two fun A s K X x y hA hS rx ry=>by
  obtain ⟨t,rfl⟩:=Rep.int_iff.mp rx
  obtain ⟨u,rfl⟩:=Rep.int_iff.mp ry
  refine min_two_ints hA.handled fun h' tk hk=>⟨K,.int (min a b),H,Le.rfl,zc3 hS hk,?_,h⟩
  split
  ·exact Rep.int_iff.mpr ⟨u,by congr 1; lia⟩
  ·exact Rep.int_iff.mpr ⟨t,by congr 1; lia⟩
theorem zkg {a:Addr} {l:List V} {x:V} (e:H a=some (.list l)) (hl:l.length≤1000000) (h:R .none (zab H a (.list (l++[x])))):zaI W d (.builtin "list.append") [.ref a,x] H R:=
 zaI.two fun A s K X p q hA hS rx ry=>by
  obtain rfl:=Rep.ref_iff.mp rx
  obtain ⟨vs,n,e1,r⟩:=hS.list e
  have hs:=zaX r
  refine wpAny_list_append_plain (items:=vs) ⟨n,e1⟩ (fun h' hp hb=>?_) (by rw [hs,sizeLine_eq]; exact zag (.i (.l Va (.k 1000000)) (.l Va (.k 16777216))) rfl hl)
  obtain ⟨n',e2⟩:=hp
  exact ⟨K,.none,_,Le.rfl,Sat.update hS e (m':=.list (l++[x])) hb (fun _ _ q=>nomatch q) (fun D=>⟨_,_,e2,by rw [Array.toList_push]; exact r.append (zaf.cons ry zaf.nil)⟩) (t:=s.toks),Rep.none_iff.mpr rfl,h⟩
theorem zkj {a b:Addr} {l l':List V} (e:H a=some (.list l)) (e':H b=some (.list l')) (hl:l.length+l'.length≤1000000) (h:R .none (zab H a (.list (l++l')))):zaI W d (.builtin "list.extend") [.ref a,.ref b] H R:=
 zaI.two fun A s K X p q hA hS rx ry=>by
  obtain rfl:=Rep.ref_iff.mp rx
  obtain rfl:=Rep.ref_iff.mp ry
  obtain ⟨vs,n,e1,r⟩:=hS.list e
  obtain ⟨vs',n',e1',r'⟩:=hS.list e'
  have hs:=zaX r
  have hs':=zaX r'
  refine call_meets PySem.F.slot_list_extend ⟨_,e1,rfl⟩ PySem.F.entry_list_extend (PySem.F.args_list_extend_2 _ _) (AutoSeq1.list_extend_list_list_0 a vs n b vs' n' (by simp [Builtin.List.listTooLong,sizeLine]; lia) (by rw [sizeLine_eq]; exact zaj (.i (.l (.a Va Vb) (.k 1000000)) (.i (.e Vc Va) (.l Vc (.k 16777216)))) rfl hl hs) (by rw [sizeLine_eq]; exact zaG (.i (.l (.a Va Vb) (.k 1000000)) (.i (.e Vc Va) (.i (.e Vd Vb) (.l (.a Vc Vd) (.a (.k 16777216) K1))))) rfl hl hs hs')) ⟨e1,e1',?_⟩
  obtain ⟨n2,hd⟩:=Obj.data_mapSeq (o:=za3 vs n) rfl (fun x=>x++vs')
  refine ⟨K,.none,_,Le.rfl,Sat.update hS e (m':=.list (l++l')) (Heap.SameBut.update s.heap a (Obj.mapSeq fun x=>x++vs')) (fun _ _ q=>nomatch q) (fun D=>⟨vs++vs',n2,?_,by rw [Array.toList_append]; exact r.append r'⟩) (t:=s.toks),Rep.none_iff.mpr rfl,h⟩
  rw [Heap.get?_update_self _ e1 (Obj.isFreed_of_seq hd)]
  unfold Obj.mapSeq at hd ⊢
  simp only at hd ⊢
  rw [hd]
theorem zkq {a:Addr} {l:List V} {x:V} (e:H a=some (.list (l++[x]))) (hl:l.length≤1000000) (h:R x (zab H a (.list l))):zaI W d (.builtin "list.pop") [.ref a] H R:=
 zaI.one fun A s K X p hA hS rx=>by
  obtain rfl:=Rep.ref_iff.mp rx
  obtain ⟨vs,n,e1,r⟩:=hS.list e
  have hs:=zaX r
  rw [List.length_append,List.length_singleton] at hs
  obtain ⟨y,hy,ry⟩:=r.get l.length (x:=x) (by simp)
  have hz:vs.size - 1=l.length:=by exact zad (.i (.e Va (.a Vb K1)) (.e (.s Va K1) Vb)) rfl hs
  refine call_meets PySem.F.slot_list_pop ⟨_,e1,rfl⟩ PySem.F.entry_list_pop (PySem.F.args_list_pop_1 _) (PySem.MeetsSeq.list_pop_last a vs n y (by rw [hz]; simpa using hy) (by rw [hs,sizeLine_eq]; exact zag (.i (.l Va (.k 1000000)) (.l (.a Va K1) (.k 16777216))) rfl hl)) ⟨e1,?_⟩
  obtain ⟨n2,hd⟩:=Obj.data_mapSeq (o:=za3 vs n) rfl (fun xs=>xs.eraseIdxIfInBounds (vs.size - 1))
  refine ⟨K,x,_,Le.rfl,Sat.update hS e (m':=.list l) (Heap.SameBut.update s.heap a (Obj.mapSeq fun xs=>xs.eraseIdxIfInBounds (vs.size - 1))) (fun _ _ q=>nomatch q) (fun D=>⟨vs.eraseIdxIfInBounds (vs.size - 1),n2,?_,?_⟩) (t:=s.toks),ry,h⟩
  ·rw [Heap.get?_update_self _ e1 (Obj.isFreed_of_seq hd)]
   unfold Obj.mapSeq at hd ⊢
   simp only at hd ⊢
   rw [hd]
  ·have:=r.take l.length
   rw [List.take_left] at this
   have e3:(vs.eraseIdxIfInBounds (vs.size - 1)).toList=vs.toList.take l.length:=by
    rw [← hz]
    simp [Array.eraseIdxIfInBounds]
    split
    ·simp [List.eraseIdx_eq_take_drop_succ]
     exact zag (.l Va (.a (.s Va K1) K1)) rfl
    ·lia
   rw [e3]; exact this
theorem zkI {a:Addr} {l:List V} {i:Int} {x:V} {R:Hp→Prop} (e:H a=some (.list l)) (h0:0≤i) (h1:i < l.length) (hl:l.length≤1000000) (h:R (zab H a (.list (l.set i.toNat x)))) :
  zbg W d (u3 fun v o i=>setItem o i v) [x,.ref a,.int i] H R:=
 zbg.three fun A s K X p q z hA hS rx ry rz=>by
  obtain rfl:=Rep.ref_iff.mp ry
  obtain ⟨t,rfl⟩:=Rep.int_iff.mp rz
  obtain ⟨vs,n,e1,r⟩:=hS.list e
  have hs:=zaX r
  have hL:=za2 e1
  unfold setItem
  refine wpAny_holding ?_
  refine wpAny_bind (wpAny_sequenceKey hL.typeIs (by decide) ?_)
  refine wpAny_bind (wpAny_callSpecial?_slot (name:=Str.ofString "__setitem__") hL.typeIs slot_list_setitem
   (wpAny_call_entry slot_list_setitem hL.typeIs entry_list_setitem ?_ (args_list_setitem _ _ _)))
  show wpAny _ _ (Builtin.List.listSubscript? (.int i t) >>= _) _ _ s
  refine wpAny_bind (wpAny_listSubscript_int (fitsIndex_of h0 (by lia)) ?_)
  obtain ⟨j,rfl⟩:=Int.eq_ofNat_of_zero_le h0
  have hj:j < vs.size:=by exact zaj (.i (.e Va Vb) (.i (.T (.c Vc) (.c Vb)) (.t Vc Va))) rfl hs h1
  show wpAny _ _ ((seqItemAt a j >>= fun r=>pure (r.map (j,·))) >>= _) _ _ s
  refine wpAny_bind (wpAny_bind (wpAny_seqItemAt e1 rfl (wpAny_pure ?_)))
  rw [Array.getElem?_eq_getElem hj]
  show wpAny _ _ (setSeqItemAt a j p >>= _) _ _ s
  obtain ⟨n2,hd⟩:=Obj.data_mapSeq (o:=za3 vs n) rfl (fun x=>x.setIfInBounds j p)
  have S':=Sat.update hS e (m':=.list (l.set j x)) (Heap.SameBut.update s.heap a (Obj.mapSeq fun x=>x.setIfInBounds j p)) (fun _ _ q=>nomatch q) (fun D=>⟨vs.setIfInBounds j p,n2,by
   rw [Heap.get?_update_self _ e1 (Obj.isFreed_of_seq hd)]
   unfold Obj.mapSeq at hd ⊢
   simp only at hd ⊢
   rw [hd],by rw [Array.toList_setIfInBounds]; exact r.set j rx⟩) (t:=s.toks)
  refine wpAny_bind (wpAny_setSeqItemAt e1 rfl ?_)
  generalize hs2:({ s with heap:=s.heap.update a (Obj.mapSeq fun x=>x.setIfInBounds j p) }:Shared)=s2
  have S2:W.Sat K X (zab H a (.list (l.set j x))) s2:=by rw [← hs2]; exact S'
  first
   | exact wpAny_bind (wpAny_pure (wpAny_pure ⟨.none,rfl,wpAny_pure ⟨K,_,Le.rfl,S2,h⟩⟩))
   | exact wpAny_pure ⟨.none,rfl,wpAny_pure ⟨K,_,Le.rfl,S2,h⟩⟩
theorem zm7 {a b:Addr} {l l':List V} (e:H a=some (.list l)) (e':H b=some (.list l')) (hl:l.length+l'.length≤1000000) (h:∀ c,H c=none→R (.ref c) (zab H c (.list (l++l')))):OpW W d (t2 (binaryOp .Add)) [.ref a,.ref b] H R:=
 OpW.two fun A s K X p q hA hS rx ry=>by
  obtain rfl:=Rep.ref_iff.mp rx
  obtain rfl:=Rep.ref_iff.mp ry
  obtain ⟨vs,n,e1,r⟩:=hS.list e
  obtain ⟨vs',n',e1',r'⟩:=hS.list e'
  have hs:=zaX r
  have hs':=zaX r'
  refine concat_meets ⟨_,e1,rfl⟩ ⟨_,e1',rfl⟩ noFill_list_add seq_list_add PySem.F.slot_list_add PySem.F.entry_list_add (PySem.F.args_list_add_2 _ _) (AutoSeq1.list___add___list_list_0 a vs n b vs' n' (by rw [sizeLine_eq]; exact zaG (.i (.l (.a Va Vb) (.k 1000000)) (.i (.e Vc Va) (.i (.e Vd Vb) (.l (.a Vc Vd) (.k 16777216))))) rfl hl hs hs')) ⟨e1,e1',?_⟩
  exact zd9 (vs:=vs++vs') (n:=0) (t:=s.toks) hS (by rw [Array.toList_append]; exact r.append r') h
theorem znq {a:Addr} {x:V} {k:Int} (e:H a=some (.list [x])) (hl:-1000≤k∧k≤1000) (h:∀ c,H c=none→R (.ref c) (zab H c (.list (List.replicate k.toNat x)))):OpW W d (t2 (binaryOp .Mult)) [.ref a,.int k] H R:=
 OpW.two fun A s K X p q hA hS rx ry=>by
  obtain rfl:=Rep.ref_iff.mp rx
  obtain ⟨u,rfl⟩:=Rep.int_iff.mp ry
  obtain ⟨vs,n,e1,r⟩:=hS.list e
  have hs:=zaX r
  simp only [List.length_singleton] at hs
  refine wpAny_binaryOp_repeat_ref (T:="list") (U:="int") (by decide) ⟨_,e1,rfl⟩ (fun s'=>typeIs_int s' k u) noFill_list_mul PySem.F.fills_int_mul PySem.F.slot_int_rmul repeat_list PySem.F.slot_int_index.lookup
   (call_meets PySem.F.slot_int_rmul (typeIs_int s k u) PySem.F.entry_int_rmul (PySem.F.args_int_rmul_2 _ _) (int___rmul___int_list k u a vs n)
    ⟨e1,rfl,⟨_,e1,rfl⟩,call_meets PySem.F.slot_list_mul ⟨_,e1,rfl⟩ PySem.F.entry_list_mul (PySem.F.args_list_mul_2 _ _)
     (AutoListH.list___mul___list_int_3 a vs n k u (by simp [Builtin.List.listFitsIndex]; lia) (by rw [hs]; lia) (by rw [hs]; simp [Builtin.List.listTooLong,sizeLine]; lia)) ⟨e1,?_⟩⟩)
  have hne:vs.isEmpty=false:=by induction q:vs.isEmpty with | false=>rfl | true=>rw [Array.isEmpty_iff] at q; rw [q] at hs; injection hs
  rw [hne]
  simp only [Bool.false_eq_true,if_false,listMul_foldl,List.nil_append,Array.toList_empty]
  obtain ⟨v,r1,ev,rv,r2⟩:=zaf.cons_iff.mp r
  rw [zaf.nil_iff.mp r2] at ev
  refine zd9 (n:=0) (t:=s.toks) hS ?_ h
  simp only [ev]
  generalize k.toNat=m
  induction m with
  | zero=>exact zaf.nil
  | succ m ih=>simp only [List.replicate_succ,List.flatten_cons,List.singleton_append]; exact zaf.cons rv (by simpa using ih)
theorem zm8 {l l':List V} (hl:l.length+l'.length≤1000) (h:R (.tup (l++l')) H):OpW W d (t2 (binaryOp .Add)) [.tup l,.tup l'] H R:=
 OpW.two fun A s K X p q hA hS rx ry=>by
  obtain ⟨a,n,vs,rfl,e1,r⟩:=Rep.tup_iff.mp rx
  obtain ⟨b,n',vs',rfl,e1',r'⟩:=Rep.tup_iff.mp ry
  have hs:=zaX r
  have hs':=zaX r'
  have k1:=hS.keep _ _ e1
  have k2:=hS.keep _ _ e1'
  by_cases hv:vs.isEmpty=true
  ·refine concat_meets ⟨_,k1,rfl⟩ ⟨_,k2,rfl⟩ noFill_tuple_add seq_tuple_add PySem.F.slot_tuple_add PySem.F.entry_tuple_add (PySem.F.args_tuple_add_2 _ _) (AutoSeq1.tuple___add___tuple_tuple_0 a vs n b vs' n' hv) ⟨k1,k2,?_⟩
   rw [Array.isEmpty_iff] at hv
   subst hv
   have:l=[]:=List.eq_nil_of_length_eq_zero hs.symm
   subst this
   exact zax hS (Rep.tup_iff.mpr ⟨b,n',vs',rfl,e1',r'⟩) h
  ·by_cases hv':vs'.isEmpty=true
   ·refine concat_meets ⟨_,k1,rfl⟩ ⟨_,k2,rfl⟩ noFill_tuple_add seq_tuple_add PySem.F.slot_tuple_add PySem.F.entry_tuple_add (PySem.F.args_tuple_add_2 _ _) (AutoSeq1.tuple___add___tuple_tuple_1 a vs n b vs' n' hv hv') ⟨k1,k2,?_⟩
    rw [Array.isEmpty_iff] at hv'
    subst hv'
    have:l'=[]:=List.eq_nil_of_length_eq_zero hs'.symm
    subst this
    rw [List.append_nil] at h
    exact zax hS (Rep.tup_iff.mpr ⟨a,n,vs,rfl,e1,r⟩) h
   ·refine concat_meets ⟨_,k1,rfl⟩ ⟨_,k2,rfl⟩ noFill_tuple_add seq_tuple_add PySem.F.slot_tuple_add PySem.F.entry_tuple_add (PySem.F.args_tuple_add_2 _ _) (AutoSeq1.tuple___add___tuple_tuple_2 a vs n b vs' n' hv hv' (by rw [sizeLine_eq]; exact zaG (.i (.l (.a Va Vb) (.k 1000)) (.i (.e Vc Va) (.i (.e Vd Vb) (.l (.a Vc Vd) (.k 16777216))))) rfl hl hs hs')) ⟨k1,k2,?_⟩
    have:=zix (vs:=vs.toList++vs'.toList) (n:=0) (t:=s.toks) hS (r.append r') h
    have e:(vs.toList++vs'.toList).toArray=vs++vs':=by simp
    rw [e] at this
    exact this
noncomputable def zbA:Option Int→V | none=>.none | some i=>.int i
noncomputable def zbq (l:List V) (lo hi:Option Int):List V:=(l.drop (lo.elim 0 (clipAt l.length))).take (hi.elim l.length (clipAt l.length) - lo.elim 0 (clipAt l.length))
theorem ziw {K:Fz} {o:Option Int} {v:Value} (r:Rep K (zbA o) v):IsPart v o:=by
 induction o with
 | none=>rw [Rep.none_iff.mp r]; exact .none
 | some i=>obtain ⟨t,rfl⟩:=Rep.int_iff.mp r; exact .int i t
theorem zi0 {K X:Fz} {s:Shared} {A:Around} {a:Addr} {l:List V} {vs:Array Value} {n:Nat} {sl:Addr} {lo hi:Option Int} {v u:Value} (hS:W.Sat K X H s) (e1:s.heap.get? a=some (za3 vs n)) (r:zaf K l vs.toList)
  (hl:l.length≤1000000) (ks:K sl=some (zfA v u)) (rl:Rep K (zbA lo) v) (ru:Rep K (zbA hi) u) (h:∀ c,H c=none→R (.ref c) (zab H c (.list (zbq l lo hi)))):wpAny W.M A (getItem (.ref a) (.ref sl)) (zaY W K X R) NoE s:=by
 have hs:=zaX r
 refine wpAny_getItem_list_slice (za2 e1) ⟨_,hS.keep _ _ ks,rfl,rfl⟩ (ziw rl) (ziw ru) .none (by simp) ?_ (by rw [hs,sizeLine_eq]; exact zag (.i (.l Va (.k 1000000)) (.l Va (.k 16777216))) rfl hl)
 rw [slicePick_plain]
 refine zd9 (n:=0) (t:=s.toks) hS ?_ h
 unfold zbq
 rw [← hs]
 exact (r.drop _).take _
theorem zoQ {a:Addr} {l:List V} {lo hi:Option Int} (e:H a=some (.list l)) (hl:l.length≤1000000) (h:∀ c,H c=none→R (.ref c) (zab H c (.list (zbq l lo hi)))):zdJ W d (.ref a) (zbA lo) (zbA hi) H R:=by
 intro A s K X o sl v u hA hS ro ks rl ru
 obtain rfl:=Rep.ref_iff.mp ro
 obtain ⟨vs,n,e1,r⟩:=hS.list e
 exact zi0 hS e1 r hl ks rl ru h
theorem zoR {a:Addr} {l:List V} {vs:Array Value} {n:Nat} {lo hi:Option Int} (e:W.h₀.get? a=some (za3 vs n)) (r:∀ K,zaf K l vs.toList) (hl:l.length≤1000000) (h:∀ c,H c=none→R (.ref c) (zab H c (.list (zbq l lo hi)))):zdJ W d (.raw (.ref a)) (zbA lo) (zbA hi) H R:=by
 intro A s K X o sl v u hA hS ro ks rl ru
 obtain rfl:=Rep.raw_iff.mp ro
 exact zi0 hS (hS.stays _ _ e) (r K) hl ks rl ru h
end
mutual
inductive Dat (H:Hp):Nat→V→PyData→Prop where
 | none {n}:Dat H n .none .none
 | bool {n b}:Dat H n (.bool b) (.bool b)
 | int {n i}:Dat H n (.int i) (.int i)
 | str {n s}:PyData.strOk s=true→Dat H n (.str s) (.str s)
 | tup {n l ds}:zaS H n l ds→Dat H (n+1) (.tup l) (.tuple ds)
 | list {n a l ds}:H a=some (.list l)→zaS H n l ds→Dat H (n+1) (.ref a) (.list ds)
inductive zaS (H:Hp):Nat→List V→List PyData→Prop where
 | nil {n}:zaS H n [] []
 | cons {n x l d ds}:Dat H n x d→zaS H n l ds→zaS H n (x::l) (d::ds)
end
section
variable {W:Wx} {H:Hp}
theorem Dat.reads {K X:Fz} {s:Shared} (hS:W.Sat K X H s) {n:Nat} {x:V} {e:PyData} (h:Dat H n x e):∀ {v:Value},Rep K x v→∃ as,Reads s.heap v e as:=by
 refine Dat.rec (motive_1:=fun _ x e _=>∀ {v},Rep K x v→∃ as,Reads s.heap v e as) (motive_2:=fun _ l es _=>∀ {vs},zaf K l vs→∃ as,ReadsAll s.heap vs es as) ?_ ?_ ?_ ?_ ?_ ?_ ?_ ?_ h
 ·exact fun r=>Rep.none_iff.mp r ▸ ⟨_,.none⟩
 ·exact fun r=>Rep.bool_iff.mp r ▸ ⟨_,.bool _⟩
 ·exact fun r=>(Rep.int_iff.mp r).elim fun t r=>r ▸ ⟨_,.int _ _⟩
 ·exact fun _ _ r=>(Rep.str_iff.mp r).elim fun t r=>r ▸ ⟨_,.str _ _⟩
 ·exact fun _ ih _ r=>(Rep.tup_iff.mp r).elim fun a r=>r.elim fun n r=>r.elim fun vs r=>(ih r.2.2).elim fun as h'=>r.1 ▸ ⟨_,.tuple (hS.keep _ _ r.2.1) rfl rfl h'⟩
 ·exact fun e _ ih _ r=>(hS.list e).elim fun vs q=>q.elim fun n q=>(ih q.2).elim fun as h'=>Rep.ref_iff.mp r ▸ ⟨_,.list q.1 rfl rfl h'⟩
 ·exact fun r=>zaf.nil_iff.mp r ▸ ⟨_,.nil⟩
 ·exact fun _ _ i1 i2 _ r=>(zaf.cons_iff.mp r).elim fun v r=>r.elim fun r' r=>(i1 r.2.1).elim fun as a=>(i2 r.2.2).elim fun bs b=>r.1 ▸ ⟨_,.cons a b⟩
theorem Dat.lay {n:Nat} {x:V} {e:PyData} (h:Dat H n x e):e.canLay0=true∧e.depth≤n+1:=by
 refine Dat.rec (motive_1:=fun n _ e _=>e.canLay0=true∧e.depth≤n+1) (motive_2:=fun n _ es _=>PyData.canLayAll0 es=true∧PyData.depthAll es≤n+1) ?_ ?_ ?_ ?_ ?_ ?_ ?_ ?_ h
 ·exact fun {n}=>⟨rfl,Nat.zero_le _⟩
 ·exact fun {n _}=>⟨rfl,Nat.zero_le _⟩
 ·exact fun {n _}=>⟨rfl,Nat.zero_le _⟩
 ·exact fun {n _} h=>⟨h,Nat.zero_le _⟩
 ·exact fun _ ih=>⟨ih.1,Nat.succ_le_succ ih.2⟩
 ·exact fun _ _ ih=>⟨ih.1,Nat.succ_le_succ ih.2⟩
 ·exact fun {n}=>⟨rfl,Nat.zero_le _⟩
 ·exact fun _ _ a b=>⟨by show (_ && _)=true; rw [a.1,b.1]; rfl,Nat.max_le.mpr ⟨a.2,b.2⟩⟩
variable {d:Nat} {R:V→Hp→Prop}
theorem znd {n m:Nat} {x y:V} {e f:PyData} (hx:Dat H n x e) (hy:Dat H m y f) (hn:n≤60) (hm:m≤60) (h:R (.bool (PyData.eqv e f)) H):OpW W d (t2 (compareOp .Eq)) [x,y] H R:=
 OpW.two fun A s K X p q hA hS rx ry=>by
  obtain ⟨as,ra⟩:=hx.reads hS rx
  obtain ⟨bs,rb⟩:=hy.reads hS ry
  have l1:=hx.lay
  have l2:=hy.lay
  have hsh:∀ {e:PyData},e.canLay0=true→e.depth≤64→SeqAt.shaped e=true:=fun a b=>by unfold SeqAt.shaped; rw [a,decide_eq_true b]; rfl
  exact SeqAt.compareEq_shaped ra rb (hsh l1.1 (zad (.i (.l Va (.k 60)) (.i (.l Vb (.a Va K1)) (.l Vb (.k 64)))) rfl hn l1.2)) (hsh l2.1 (zad (.i (.l Va (.k 60)) (.i (.l Vb (.a Va K1)) (.l Vb (.k 64)))) rfl hm l2.2)) (by have:=hA.units; unfold cLine; exact zad (.i (.l (.a Va Vb) (.k 9000)) (.t (.a Va (.k 64)) (.k 9900))) rfl this) (zax hS (Rep.bool_iff.mpr rfl) h)
theorem zns {n m:Nat} {x y:V} {e f:PyData} (hx:Dat H n x e) (hy:Dat H m y f) (hn:n≤60) (hm:m≤60) (h:R (.bool (!PyData.eqv e f)) H):OpW W d (t2 (compareOp .NotEq)) [x,y] H R:=
 OpW.two fun A s K X p q hA hS rx ry=>by
  obtain ⟨as,ra⟩:=hx.reads hS rx
  obtain ⟨bs,rb⟩:=hy.reads hS ry
  have l1:=hx.lay
  have l2:=hy.lay
  have hsh:∀ {e:PyData},e.canLay0=true→e.depth≤64→SeqAt.shaped e=true:=fun a b=>by unfold SeqAt.shaped; rw [a,decide_eq_true b]; rfl
  exact SeqAt.compareNe_shaped ra rb (hsh l1.1 (zad (.i (.l Va (.k 60)) (.i (.l Vb (.a Va K1)) (.l Vb (.k 64)))) rfl hn l1.2)) (hsh l2.1 (zad (.i (.l Va (.k 60)) (.i (.l Vb (.a Va K1)) (.l Vb (.k 64)))) rfl hm l2.2)) (by have:=hA.units; unfold cLine; exact zad (.i (.l (.a Va Vb) (.k 9000)) (.t (.a Va (.k 64)) (.k 9900))) rfl this) (zax hS (Rep.bool_iff.mpr rfl) h)
theorem Dat.eqv_self {n:Nat} {x:V} {e:PyData} (hx:Dat H n x e):PyData.eqv e e=true:=SeqAt.eqv_refl e hx.lay.1
theorem znj {x:Str} {l:List Str} (h:R (.bool (l.any (· == x))) H):OpW W d (t2 (compareOp .In)) [.str x,.tup (l.map .str)] H R:=
 OpW.two fun A s K X p q hA hS rx ry=>by
  obtain ⟨t,rfl⟩:=Rep.str_iff.mp rx
  obtain ⟨a,n,vs,rfl,e1,r⟩:=Rep.tup_iff.mp ry
  have all:∀ (l:List Str) (vs:List Value),zaf K (l.map .str) vs→(∀ y ∈ vs,∃ z u,y=.str z u)∧vs.any (fun y=>match y with | .str z _=>z == x | _=>false)=l.any (· == x):=by
   intro l
   induction l with
   | nil=>intro vs r; rw [zaf.nil_iff.mp r]; exact ⟨fun _ h=>(nomatch h),rfl⟩
   | cons z l ih =>
    intro vs r
    obtain ⟨v,r',rfl,p,q⟩:=zaf.cons_iff.mp r
    obtain ⟨u,rfl⟩:=Rep.str_iff.mp p
    obtain ⟨i1,i2⟩:=ih _ q
    refine ⟨fun y hy=>?_,by rw [List.any_cons,List.any_cons,i2]⟩
    rcases List.mem_cons.mp hy with rfl | hy
    ·exact ⟨_,_,rfl⟩
    ·exact i1 y hy
  obtain ⟨a1,a2⟩:=all l _ r
  refine SeqAt.in_tupleAt (fun y=>match y with | .str z _=>z == x | _=>false) (zdX (hS.keep _ _ e1)) (fun y hy=>?_) ?_
  ·obtain ⟨z,u,rfl⟩:=a1 y (by simpa using hy)
   exact SeqAt.EqAt.str_str z u x t
  ·rw [← Array.any_toList,a2]
   exact zax hS (Rep.bool_iff.mpr rfl) h
theorem zkm {a:Addr} {l:List V} (e:H a=some (.list l)) (hl:l.length≤1000000) (h:∀ c,H c=none→R (.ref c) (zab H c (.list l))):zaI W d (.type "list") [.ref a] H R:=
 zaI.one fun A s K X p hA hS rx=>by
  obtain rfl:=Rep.ref_iff.mp rx
  obtain ⟨vs,n,e1,r⟩:=hS.list e
  have hs:=zaX r
  refine call_list_seq a (.inl rfl) e1 rfl rfl (fun h' c' hk hc=>?_) (by rw [hs,sizeLine_eq]; exact zag (.i (.l Va (.k 1000000)) (.l Va (.k 16777216))) rfl hl)
  have hfr:=Sat.fresh hS
  have S1:W.Sat K (zab X s.heap.objs.size (za3 vs c')) H { s with heap:=h' }:=Sat.ext1 hS hk hc
  obtain ⟨hn,S2⟩:=Sat.thaw S1 (a:=s.heap.objs.size) (m:=.list l) (X':=X) zai (fun b o q=>by
   rw [zao]; · exact q
   intro z; rw [z,hfr.2.1] at q; injection q) hfr.2.1 (fun _ _ q=>nomatch q) (h':=h') ⟨rfl,fun _ _=>rfl⟩ (fun D=>⟨vs,c',hc,r⟩) (t:=s.toks)
  exact ⟨K,_,_,Le.rfl,S2,Rep.ref_iff.mpr rfl,h _ hn⟩
theorem zkn {l:List V} (hl:l.length≤1000000) (h:∀ c,H c=none→R (.ref c) (zab H c (.list l))):zaI W d (.type "list") [.tup l] H R:=
 zaI.one fun A s K X p hA hS rx=>by
  obtain ⟨a,n,vs,rfl,e1,r⟩:=Rep.tup_iff.mp rx
  have hs:=zaX r
  refine call_list_seq a (.inr rfl) (hS.keep _ _ e1) rfl rfl (fun h' c' hk hc=>?_) (by rw [hs,sizeLine_eq]; exact zag (.i (.l Va (.k 1000000)) (.l Va (.k 16777216))) rfl hl)
  have hfr:=Sat.fresh hS
  have S1:W.Sat K (zab X s.heap.objs.size (za3 vs c')) H { s with heap:=h' }:=Sat.ext1 hS hk hc
  obtain ⟨hn,S2⟩:=Sat.thaw S1 (a:=s.heap.objs.size) (m:=.list l) (X':=X) zai (fun b o q=>by
   rw [zao]; · exact q
   intro z; rw [z,hfr.2.1] at q; injection q) hfr.2.1 (fun _ _ q=>nomatch q) (h':=h') ⟨rfl,fun _ _=>rfl⟩ (fun D=>⟨vs,c',hc,r⟩) (t:=s.toks)
  exact ⟨K,_,_,Le.rfl,S2,Rep.ref_iff.mpr rfl,h _ hn⟩
theorem zkk {i:Int} (h:R (.int i) H):zaI W d (.type "int") [.int i] H R:=
 zaI.one fun A s K X p hA hS rx=>by
  obtain ⟨t,rfl⟩:=Rep.int_iff.mp rx
  exact call_int_int (zax hS (Rep.int_iff.mpr ⟨_,rfl⟩) h)
theorem zkf {a:Addr} {n:Nat} (e:H a=some (.list (List.replicate n (.bool true)))) (h:R (.bool true) H):zaI W d (.builtin "all") [.ref a] H R:=
 zaI.one fun A s K X p hA hS rx=>by
  obtain rfl:=Rep.ref_iff.mp rx
  obtain ⟨vs,k,e1,r⟩:=hS.list e
  have hL:=za2 e1
  have hlt:a < s.heap.objs.size:=Heap.lt_size e1
  refine call_all_walk (wpAny_pyIter_list hL ?_)
  refine ⟨_,_,_,_,_,_,fun _=>true,rfl,Walks.list (A:=A.in1) hA.handled _ a (Nat.ne_of_lt hlt) vs,⟨⟨_,Heap.get?_push_size _ rfl,rfl,rfl⟩,hL.push _⟩,fun i v s' Q E hi hQ=>?_,fun h' tk hk=>?_⟩
  ·have:v=.bool true:=by
    have hl:vs.toList[i]?=some v:=by simpa using hi
    have:∀ (n:Nat) (vs:List Value) (i:Nat),zaf K (List.replicate n (.bool true)) vs→vs[i]?=some v→v=.bool true:=by
     intro n
     induction n with
     | zero=>intro vs i r q; rw [zaf.nil_iff.mp r] at q; injection q
     | succ n ih =>
      intro vs i r q
      obtain ⟨v',r',rfl,p,q'⟩:=zaf.cons_iff.mp r
      cases i with
      | zero=>(injection q with q; subst q); exact Rep.bool_iff.mp p
      | succ i=>exact ih _ i q' q
    exact this _ _ _ r hl
   subst this
   exact wpAny_truthy_bool hQ
  ·have:(List.range vs.size).all (fun _=>true)=true:=by simp
   rw [this]
   exact ⟨K,_,_,Le.rfl,(zc3 (s:=s) hS (old_kept (s:=s) (l:=a) hk):W.Sat K X H { s with heap:=h',toks:=tk }),Rep.bool_iff.mpr rfl,h⟩
end
section
variable {α:Type} [DecidableEq α]
noncomputable def dAt (k:α) (l:List (α × V)):Option V:=(l.find? fun p=>p.1=k).map (·.2)
noncomputable def zcr (k:α) (x:V) (l:List (α × V)):List (α × V):=if l.any (fun p=>p.1=k) then l.map (fun p=>if p.1=k then (p.1,x) else p) else l++[(k,x)]
theorem Kvs.keys {K:Fz}:∀ {l:List (α × V)} {kvs:List (α × Value)},Kvs K kvs l→kvs.map (·.1)=l.map (·.1)
 | [],_,h=>by rw [show (_:List (α × Value))=[] from h]; rfl
 | (k,x)::l,_,⟨v,r,e,_,h⟩=>by subst e; simp [Kvs.keys h]
theorem Kvs.at {K:Fz} {k:α}:∀ {l:List (α × V)} {kvs:List (α × Value)},Kvs K kvs l→match dAt k l with | some x=>∃ v,valueAt kvs k=some v∧Rep K x v | none=>valueAt kvs k=none
 | [],_,h=>by rw [show (_:List (α × Value))=[] from h]; rfl
 | (j,y)::l,_,⟨v,r,e,hv,h⟩=>by
  subst e
  have ih:=Kvs.at (k:=k) h
  unfold dAt valueAt at ih ⊢
  rw [List.find?_cons,List.find?_cons]
  by_cases q:j=k
  ·simp only [q,decide_true,Option.map_some]; exact ⟨v,rfl,hv⟩
  ·simp only [q,decide_false]; exact ih
theorem Kvs.map {K:Fz} {k:α} {x:V} {v:Value} (hx:Rep K x v):∀ {l:List (α × V)} {kvs:List (α × Value)},Kvs K kvs l→Kvs K (kvs.map fun kv=>if kv.1=k then (kv.1,v) else kv) (l.map fun p=>if p.1=k then (p.1,x) else p)
 | [],_,h=>by rw [show (_:List (α × Value))=[] from h]; rfl
 | (j,y)::l,_,⟨w,r,e,hv,h⟩=>by
  subst e
  by_cases q:j=k
  ·simp only [List.map_cons,q,if_true]; exact ⟨v,_,rfl,hx,by simpa [q] using Kvs.map hx h⟩
  ·simp only [List.map_cons,q,if_false]; exact ⟨w,_,rfl,hv,Kvs.map hx h⟩
theorem Kvs.snoc {K:Fz} {k:α} {x:V} {v:Value} (hx:Rep K x v):∀ {l:List (α × V)} {kvs:List (α × Value)},Kvs K kvs l→Kvs K (kvs++[(k,v)]) (l++[(k,x)])
 | [],_,h=>by rw [show (_:List (α × Value))=[] from h]; exact ⟨v,[],rfl,hx,rfl⟩
 | (j,y)::l,_,⟨w,r,e,hv,h⟩=>by subst e; exact ⟨w,_,rfl,hv,Kvs.snoc hx h⟩
theorem Kvs.put {K:Fz} {k:α} {x:V} {v:Value} (hx:Rep K x v) {l:List (α × V)} {kvs:List (α × Value)} (h:Kvs K kvs l):Kvs K (stored kvs k v) (zcr k x l):=by
 unfold stored zcr
 have e:kvs.any (fun kv=>kv.1=k)=l.any (fun p=>p.1=k):=by
  have:=congrArg (fun m=>m.any fun z=>decide (z=k)) h.keys
  simpa [List.any_map,Function.comp_def] using this
 rw [e]
 split
 ·exact Kvs.map hx h
 ·exact Kvs.snoc hx h
end
section
variable {W:Wx} {d:Nat} {H:Hp} {R:V→Hp→Prop}
theorem Wx.Sat.dict {K X:Fz} {s:Shared} {a:Addr} {l:List (Str × V)} (hS:W.Sat K X H s) (e:H a=some (.dict l)):a≠sysModules∧∃ kvs,s.heap.DictOf (PySem.strKind prg W.w) a kvs∧Kvs K kvs l:=
 let ⟨_,O⟩:=hS.objs; O.at_ _ _ e
theorem Wx.Sat.dictB {K X:Fz} {s:Shared} {a:Addr} {l:List (List UInt8 × V)} (hS:W.Sat K X H s) (e:H a=some (.dictB l)):a≠sysModules∧∃ kvs,s.heap.DictOf (bytesKind prg W.w) a kvs∧Kvs K kvs l:=
 let ⟨_,O⟩:=hS.objs; O.at_ _ _ e
theorem nsm {a:Addr} (h:a≠sysModules):(a == sysModules)=false:=by simpa using h
theorem zeV {κ κ':Type} [DecidableEq κ] [DecidableEq κ'] {h:Heap} {a:Addr} {knd:KeyKind prg W.w κ} {knd':KeyKind prg W.w κ'} (x:h.DictOf knd a []):h.DictOf knd' a []:=by
 obtain ⟨o,es,ep,h1,h2,h3,_,h5,_⟩:=x
 have:es.toList=[]:=List.eq_nil_of_length_eq_zero h5.length
 refine ⟨o,es,ep,h1,h2,h3,fun e he=>?_,this ▸ .nil,List.nodup_nil⟩
 rw [← Array.mem_toList_iff,this] at he; cases he
theorem zna {a:Addr} {l:List (Str × V)} {k:Str} {x:V} (e:H a=some (.dict l)) (hx:dAt k l=some x) (h:R x H):OpW W d (t2 getItem) [.ref a,.str k] H R:=
 OpW.two fun A s K X p q hA hS rx ry=>by
  obtain rfl:=Rep.ref_iff.mp rx
  obtain ⟨t,rfl⟩:=Rep.str_iff.mp ry
  obtain ⟨ns,kvs,hd,hk⟩:=hS.dict e
  have:=hk.at (k:=k)
  rw [hx] at this
  obtain ⟨v,hv,rv⟩:=this
  exact wpAny_getItem_of (knd:=PySem.strKind prg W.w) (k:=k) (by simp [PySem.strKind,Value.isStrOf]) hd.mapOf hv (zax hS rv h)
theorem zkF {a:Addr} {l:List (Str × V)} {k:Str} {x:V} {R:Hp→Prop} (e:H a=some (.dict l)) (hl:l.length≤1000) (h:R (zab H a (.dict (zcr k x l)))):zbg W d (u3 fun v o i=>setItem o i v) [x,.ref a,.str k] H R:=
 zbg.three fun A s K X p q z hA hS rx ry rz=>by
  obtain rfl:=Rep.ref_iff.mp ry
  obtain ⟨t,rfl⟩:=Rep.str_iff.mp rz
  obtain ⟨ns,kvs,hd,hk⟩:=hS.dict e
  have hlen:kvs.length=l.length:=by have:=congrArg List.length hk.keys; simpa using this
  refine wpAny_setItem_pairs (knd:=PySem.strKind prg W.w) (k:=k) (by simp [PySem.strKind,Value.isStrOf]) hd (fun h' hm hb=>?_) (by rw [hlen,sizeLine_eq]; exact zag (.i (.l Va (.k 1000)) (.l Va (.k 16777216))) rfl hl)
  exact ⟨K,_,Le.rfl,Sat.update hS e (m':=.dict (zcr k x l)) hb (fun _ _ q=>nomatch q) (fun D=>⟨ns,_,hm,hk.put rx⟩) (t:=s.toks+1),h⟩
theorem znb {a:Addr} {l:List (List UInt8 × V)} {k:Array UInt8} {x:V} (e:H a=some (.dictB l)) (hx:dAt k.toList l=some x) (h:R x H):OpW W d (t2 getItem) [.ref a,.bytes k] H R:=
 OpW.two fun A s K X p q hA hS rx ry=>by
  obtain rfl:=Rep.ref_iff.mp rx
  obtain ⟨t,rfl⟩:=Rep.bytes_iff.mp ry
  obtain ⟨ns,kvs,hd,hk⟩:=hS.dictB e
  have:=hk.at (k:=k.toList)
  rw [hx] at this
  obtain ⟨v,hv,rv⟩:=this
  exact wpAny_getItem_of (knd:=bytesKind prg W.w) (k:=k.toList) (by simp [bytesKind,isBytes]) hd.mapOf hv (zax hS rv h)
theorem zkG {a:Addr} {k:Array UInt8} {x:V} {R:Hp→Prop} (e:H a=some (.dict [])) (h:R (zab H a (.dictB [(k.toList,x)]))):zbg W d (u3 fun v o i=>setItem o i v) [x,.ref a,.bytes k] H R:=
 zbg.three fun A s K X p q z hA hS rx ry rz=>by
  obtain rfl:=Rep.ref_iff.mp ry
  obtain ⟨t,rfl⟩:=Rep.bytes_iff.mp rz
  obtain ⟨ns,kvs,hd,hk⟩:=hS.dict e
  rw [show kvs=[] from hk] at hd
  have hd':=zeV (knd':=bytesKind prg W.w) hd
  refine wpAny_setItem_pairs (knd:=bytesKind prg W.w) (k:=k.toList) (by simp [bytesKind,isBytes]) hd' (fun h' hm hb=>?_) (by simp)
  exact ⟨K,_,Le.rfl,Sat.update hS e (m':=.dictB [(k.toList,x)]) hb (fun _ _ q=>nomatch q) (fun D=>⟨ns,_,hm,⟨p,[],rfl,rx,rfl⟩⟩) (t:=s.toks+1),h⟩
theorem znw {a:Addr} {k:Array UInt8} (e:H a=some (.dict [])) (h:R (.bool true) H):OpW W d (t2 (compareOp .NotIn)) [.bytes k,.ref a] H R:=
 OpW.two fun A s K X p q hA hS rx ry=>by
  obtain rfl:=Rep.ref_iff.mp ry
  obtain ⟨t,rfl⟩:=Rep.bytes_iff.mp rx
  obtain ⟨ns,kvs,hd,hk⟩:=hS.dict e
  rw [show kvs=[] from hk] at hd
  have hd':=zeV (knd':=bytesKind prg W.w) hd
  exact wpAny_notIn_of (knd:=bytesKind prg W.w) (k:=k.toList) (by simp [bytesKind,isBytes]) (nsm ns) hd'.mapOf (zax hS (Rep.bool_iff.mpr rfl) h)
theorem znv {a:Addr} {l:List (List UInt8 × V)} {k:Array UInt8} (e:H a=some (.dictB l)) (h:R (.bool !(dAt k.toList l).isSome) H):OpW W d (t2 (compareOp .NotIn)) [.bytes k,.ref a] H R:=
 OpW.two fun A s K X p q hA hS rx ry=>by
  obtain rfl:=Rep.ref_iff.mp ry
  obtain ⟨t,rfl⟩:=Rep.bytes_iff.mp rx
  obtain ⟨ns,kvs,hd,hk⟩:=hS.dictB e
  have:=hk.at (k:=k.toList)
  refine wpAny_notIn_of (knd:=bytesKind prg W.w) (k:=k.toList) (by simp [bytesKind,isBytes]) (nsm ns) hd.mapOf (zax hS (Rep.bool_iff.mpr ?_) h)
  induction q:dAt k.toList l with
  | none=>rw [q] at this; rw [this]; rfl
  | some x=>rw [q] at this; obtain ⟨v,hv,_⟩:=this; rw [hv]; rfl
theorem zkh {a:Addr} {l:List (Str × V)} {k:Str} {y:V} (e:H a=some (.dict l)) (h:R ((dAt k l).getD y) H):zaI W d (.builtin "dict.get") [.ref a,.str k,y] H R:=
 zaI.three fun A s K X p q z hA hS rx ry rz=>by
  obtain rfl:=Rep.ref_iff.mp rx
  obtain ⟨t,rfl⟩:=Rep.str_iff.mp ry
  obtain ⟨ns,kvs,hd,hk⟩:=hS.dict e
  have:=hk.at (k:=k)
  refine call_meetsIn PySem.F.slot_dict_get hd.typeIs PySem.F.entry_dict_get (PySem.F.args_dict_get_3 _ _ _) (meets_dict_get_default (PySem.strKind prg W.w) a (k:=k) (by simp [PySem.strKind,Value.isStrOf]) (nsm ns) z) ⟨_,hd.mapOf,?_⟩
  refine zax hS ?_ h
  induction q:dAt k l with
  | none=>rw [q] at this; rw [this]; exact rz
  | some x=>rw [q] at this; obtain ⟨v,hv,rv⟩:=this; rw [hv]; exact rv
theorem zki {a:Addr} {i:Int} {y:V} (e:H a=some (.dict [])) (h:R y H):zaI W d (.builtin "dict.get") [.ref a,.int i,y] H R:=
 zaI.three fun A s K X p q z hA hS rx ry rz=>by
  obtain rfl:=Rep.ref_iff.mp rx
  obtain ⟨t,rfl⟩:=Rep.int_iff.mp ry
  obtain ⟨ns,kvs,hd,hk⟩:=hS.dict e
  rw [show kvs=[] from hk] at hd
  have hd':=zeV (knd':=PySem.intKind prg W.w) hd
  refine call_meetsIn PySem.F.slot_dict_get hd.typeIs PySem.F.entry_dict_get (PySem.F.args_dict_get_3 _ _ _) (meets_dict_get_default (PySem.intKind prg W.w) a (k:=i) (by simp [PySem.intKind,Value.isInt]) (nsm ns) z) ⟨_,hd'.mapOf,?_⟩
  exact zax hS rz h
theorem zmK {a m:Nat} {l:List (Str × V)} {id:String} (e:H a=some (.dict l)) (slot:Slot "dict" (zbv m) id) (hty:typeOf (.builtin id)=pure (.type "method_descriptor")):zc9 W d (zbv m) (.ref a) H (.builtin id):=by
 intro A s K X v pl hA hS rv Q hQ
 obtain rfl:=Rep.ref_iff.mp rv
 obtain ⟨ns,kvs,hd,hk⟩:=hS.dict e
 exact getMethod_builtin hd.typeIs PySem.F.plainAttrs_dict slot hty hd.mapOf.noDict hQ
theorem zaC {β:Type} {f:Addr→Option β} {a:Addr} {x y:β}:zab (zab f a x) a y=zab f a y:=by
 funext b; unfold zab; split <;> rfl
theorem zic {K X:Fz} {s:Shared} {a:Addr} {l₀ l:List V} {vs:Array Value} {n t:Nat} (hS:W.Sat K X H s) (e:H a=some (.list l₀)) (e1:s.heap.get? a=some (za3 vs n)) (f:Array Value→Array Value) (r:zaf K l (f vs).toList) :
  W.Sat K X (zab H a (.list l)) { s with heap:=s.heap.update a (Obj.mapSeq f),toks:=t }:=by
 obtain ⟨n2,hd⟩:=Obj.data_mapSeq (o:=za3 vs n) rfl f
 refine Sat.update hS e (m':=.list l) (Heap.SameBut.update s.heap a (Obj.mapSeq f)) (fun _ _ q=>nomatch q) (fun D=>⟨f vs,n2,?_,r⟩)
 rw [Heap.get?_update_self _ e1 (Obj.isFreed_of_seq hd)]
 unfold Obj.mapSeq at hd ⊢
 simp only at hd ⊢
 rw [hd]
theorem zkr {a:Addr} (e:H a=some (.dict [])) (h:∀ c,H c=none→R (.ref c) (zab H c (.list []))):zaI W d (.builtin "sorted") [.ref a] H R:=
 zaI.one fun A s K X p hA hS rx=>by
  obtain rfl:=Rep.ref_iff.mp rx
  obtain ⟨ns,kvs,hd,hk⟩:=hS.dict e
  rw [show kvs=[] from hk] at hd
  obtain ⟨ep,hat⟩:=hd.dictAt
  refine Calls.call_function_entry kind_sorted plain_sorted entry_sorted (args_sorted1 _) ?_
  unfold Builtin.«sorted»
  refine wpAny_bind (m:=checkCount "sorted" 1 1 _) (wpAny_pure ?_)
  refine wpAny_bind (kdu_collect (A:=A.in1) (kdl_dict (knd:=PySem.strKind prg W.w) (kvs:=[]) (ep:=ep) (nsm ns)) hA.handled hat (Nat.zero_le _) fun h' tk acc hk hacc=>?_)
  have ha:acc=#[]:=by have:=hacc.1; simpa using this
  subst ha
  have S1:W.Sat K X H { s with heap:=h',toks:=tk }:=zc3 hS hk
  refine wpAny_bind (wpAny_newList ?_ (by simp))
  have hoL:(h'.push (seqObj "list" (#[]:Array Value).toList.toArray 0)).get? h'.objs.size=some (seqObj "list" ([]:List Value).toArray 0):=Heap.get?_push_size _ rfl
  refine wpAny_bind (wpAny_holding (wpAny_call_entry slot_list_sort ⟨_,hoL,rfl⟩ entry_list_sort (list_sort_tree hoL (vs:=[]) (ns:=[]) .nil (by simp) fun out ns' a1 a2 a3=>⟨_,rfl,?_⟩) (args_list_sort _)))
  have hn':ns'=[]:=a2.eq_nil
  subst hn'
  have ho:out.toList=[]:=by induction hq:out.toList using List.casesOn with | nil=>rfl | cons v r=>rw [hq] at a1; cases a1
  refine wpAny_pure ⟨_,rfl,?_⟩
  have S2:=Sat.alloc S1 (za3 #[] 0) (.list []) (fun _ _ e=>nomatch e) (fun D=>⟨#[],0,Heap.get?_push_size _ rfl,zaf.nil⟩) (t:=tk)
  have hfr:=(Sat.fresh S1).2.2
  have S3:=zic S2 (vs:=#[]) (n:=0) zai (Heap.get?_push_size _ rfl) (fun _=>#[]) (l:=[]) zaf.nil (t:=tk)
  have S4:=zc3 (t:=tk) S3 fun b o e=>Heap.get?_push_of_some (seqObj "tuple" ([]:List Value).toArray 0) e
  have S5:=zc3 (t:=tk) S4 fun b o e=>Heap.get?_push_of_some (seqObj "list" #[] 0) e
  obtain ⟨vs2,n2,e2,_⟩:=S5.list (a:=h'.objs.size) (l:=[]) zai
  have S6:=zic S5 (vs:=vs2) (n:=n2) zai e2 (fun _=>out) (l:=[]) (by rw [ho]; exact zaf.nil) (t:=tk)
  rw [zaC,zaC] at S6
  exact ⟨K,_,_,Le.rfl,S6,Rep.ref_iff.mpr rfl,h _ hfr⟩
end
section
variable {W:Wx} {d:Nat} {H:Hp} {R:V→Hp→Prop}
theorem zcC {fa i j:Nat} {ps:List Str} {c:List I} {ρ:Ro} (D:zbY W.w.params fa i j ps) {args:List V} (hl:args.length=ps.length) (e1:zbx i j=c) (e2:ro0 i j ps args=ρ) (h:Run W d c [] ρ H (zan R)):zae W (d+1) (.ref fa) args H R:=zj4 D hl (e1 ▸ e2 ▸ h)
theorem ca1 {fa i j:Nat} {c:List I} {ρ:Ro} {x0:V} {qual:Str} {dV pm:Value} {cc:Addr} {t:Tok} (e:(KF W.w.params).lookup fa=some (fo i j qual dV pm (.ref cc))) (e2:(CA.zip CQ).lookup cc=some (some (.str qual t))) (hn:(zaA (dg i j)).length=1) (h:Run W d c [] ρ H (zan R)) (h0:zby i j (zaA (dg i j))=true) (e3:zbx i j=c) (e4:ro0 i j (zaA (dg i j)) [x0]=ρ) (b:∀ a0,bindArgs (fnI i j qual dV pm cc) ⟨[a0],[]⟩=pure ((zaA (dg i j)).zip [a0])):zae W (d+1) (.ref fa) [x0] H R:=zcC (df1 h0 e e2 hn b) hn.symm e3 e4 h
theorem ca2 {fa i j:Nat} {c:List I} {ρ:Ro} {x0 x1:V} {qual:Str} {dV pm:Value} {cc:Addr} {t:Tok} (e:(KF W.w.params).lookup fa=some (fo i j qual dV pm (.ref cc))) (e2:(CA.zip CQ).lookup cc=some (some (.str qual t))) (hn:(zaA (dg i j)).length=2) (h:Run W d c [] ρ H (zan R)) (h0:zby i j (zaA (dg i j))=true) (e3:zbx i j=c) (e4:ro0 i j (zaA (dg i j)) [x0,x1]=ρ) (b:∀ a0 a1,bindArgs (fnI i j qual dV pm cc) ⟨[a0,a1],[]⟩=pure ((zaA (dg i j)).zip [a0,a1])):zae W (d+1) (.ref fa) [x0,x1] H R:=zcC (df2 h0 e e2 hn b) hn.symm e3 e4 h
theorem ca3 {fa i j:Nat} {c:List I} {ρ:Ro} {x0 x1 x2:V} {qual:Str} {dV pm:Value} {cc:Addr} {t:Tok} (e:(KF W.w.params).lookup fa=some (fo i j qual dV pm (.ref cc))) (e2:(CA.zip CQ).lookup cc=some (some (.str qual t))) (hn:(zaA (dg i j)).length=3) (h:Run W d c [] ρ H (zan R)) (h0:zby i j (zaA (dg i j))=true) (e3:zbx i j=c) (e4:ro0 i j (zaA (dg i j)) [x0,x1,x2]=ρ) (b:∀ a0 a1 a2,bindArgs (fnI i j qual dV pm cc) ⟨[a0,a1,a2],[]⟩=pure ((zaA (dg i j)).zip [a0,a1,a2])):zae W (d+1) (.ref fa) [x0,x1,x2] H R:=zcC (df3 h0 e e2 hn b) hn.symm e3 e4 h
theorem ca4 {fa i j:Nat} {c:List I} {ρ:Ro} {x0 x1 x2 x3:V} {qual:Str} {dV pm:Value} {cc:Addr} {t:Tok} (e:(KF W.w.params).lookup fa=some (fo i j qual dV pm (.ref cc))) (e2:(CA.zip CQ).lookup cc=some (some (.str qual t))) (hn:(zaA (dg i j)).length=4) (h:Run W d c [] ρ H (zan R)) (h0:zby i j (zaA (dg i j))=true) (e3:zbx i j=c) (e4:ro0 i j (zaA (dg i j)) [x0,x1,x2,x3]=ρ) (b:∀ a0 a1 a2 a3,bindArgs (fnI i j qual dV pm cc) ⟨[a0,a1,a2,a3],[]⟩=pure ((zaA (dg i j)).zip [a0,a1,a2,a3])):zae W (d+1) (.ref fa) [x0,x1,x2,x3] H R:=zcC (df4 h0 e e2 hn b) hn.symm e3 e4 h
theorem ca5 {fa i j:Nat} {c:List I} {ρ:Ro} {x0 x1 x2 x3 x4:V} {qual:Str} {dV pm:Value} {cc:Addr} {t:Tok} (e:(KF W.w.params).lookup fa=some (fo i j qual dV pm (.ref cc))) (e2:(CA.zip CQ).lookup cc=some (some (.str qual t))) (hn:(zaA (dg i j)).length=5) (h:Run W d c [] ρ H (zan R)) (h0:zby i j (zaA (dg i j))=true) (e3:zbx i j=c) (e4:ro0 i j (zaA (dg i j)) [x0,x1,x2,x3,x4]=ρ) (b:∀ a0 a1 a2 a3 a4,bindArgs (fnI i j qual dV pm cc) ⟨[a0,a1,a2,a3,a4],[]⟩=pure ((zaA (dg i j)).zip [a0,a1,a2,a3,a4])):zae W (d+1) (.ref fa) [x0,x1,x2,x3,x4] H R:=zcC (df5 h0 e e2 hn b) hn.symm e3 e4 h
local macro_rules | `(tactic| walk_at "d")=>`(tactic| ((first | refine ca1 rfl rfl rfl (by assumption) ?_ ?_ ?_ ?_ | refine ca2 rfl rfl rfl (by assumption) ?_ ?_ ?_ ?_ | refine ca3 rfl rfl rfl (by assumption) ?_ ?_ ?_ ?_ | refine ca4 rfl rfl rfl (by assumption) ?_ ?_ ?_ ?_ | refine ca5 rfl rfl rfl (by assumption) ?_ ?_ ?_ ?_); (kernel_rfl); (kernel_rfl); (kernel_rfl); (intros; with_unfolding_all rfl)))
noncomputable def zg0:List I:=[.lit (.raw (.builtin "max")),Y1,.lit (.raw (.builtin "min")),Y0,Y2,.call 2,.call 2,.ret]
theorem zl1 (a0 a1 a2:V) (h:Run W d zg0 [] [some a0,some a1,some a2] H (zan R)):zae W (d+1) (.ref 62) [a0,a1,a2] H R:=by walk_at "d"
noncomputable def zg8:List I:=[(iI 0),(iI (-1)),Y0,(iI 2),.idx,(iI (-1)),(iI 0),.tup 5,.ret]
theorem zl9 (a0:V) (h:Run W d zg8 [] [some a0] H (zan R)):zae W (d+1) (.ref 69) [a0] H R:=by walk_at "d"
noncomputable def zhb:List I:=[.tup 0,(iI 1),.lit (.raw (.ref 69)),Y0,.call 1,iF,.tup 4,.ret]
theorem zmc (a0:V) (h:Run W d zhb [] [some a0] H (zan R)):zae W (d+1) (.ref 76) [a0] H R:=by walk_at "d"
noncomputable def zhe:List I:=[Y0,(iI 0),.idx,.tup 0,.cmp .Eq,.chk,.ite [Y0,(iI 1),.idx,(iI 1),.cmp .Eq,.chk] [iF],.ret]
theorem zmf (a0:V) (h:Run W d zhe [] [some a0] H (zan R)):zae W (d+1) (.ref 83) [a0] H R:=by walk_at "d"
noncomputable def zhi:List I:=[Y0,.tup 0,(iI 1),.lit (.tup [.int (0),.int (-1),.int (-1),.int (-1),.int 0]),iF,.tup 4,.cmp .Eq,.ret]
theorem zmk (a0:V) (h:Run W d zhi [] [some a0] H (zan R)):zae W (d+1) (.ref 90) [a0] H R:=by walk_at "d"
noncomputable def zhn:List I:=[.lit (.raw (.ref 76)),Y1,.call 1,.lst 1,.lit (.raw (.builtin "max")),(iI 0),Y0,.call 2,.bin .Mult,.ret]
theorem zmp (a0 a1:V) (h:Run W d zhn [] [some a0,some a1] H (zan R)):zae W (d+1) (.ref 98) [a0,a1] H R:=by walk_at "d"
noncomputable def zf5:List I:=[.tup 0,(iI 0),Y0,(iI 2),.idx,Y0,(iI 3),.idx,.tup 4,.ret]
theorem zk3 (a0:V) (h:Run W d zf5 [] [some a0] H (zan R)):zae W (d+1) (.ref 105) [a0] H R:=by walk_at "d"
noncomputable def zf6:List I:=[(iI 0),Y1,.cmpk .Lt,.ite [.lit (.raw (.builtin "len")),Y0,.call 1,.cmp .Lt] [.pop,iF],.chk,.ite [Y0,Y1,.idx,(iI 1),.idx,(iI 0),.cmp .Eq,.chk] [iF],.ite [.lit (.raw (.ref 76)),Y0,Y1,(iI 1),.bin .Sub,.idx,(iI 2),.idx,.call 1,Y0,Y1,(iI 1),.bin .Sub,.sidx,.lit (.raw (.ref 76)),Y0,Y1,.idx,(iI 2),.idx,.call 1,Y0,Y1,.sidx] []]
theorem zk4 (a0 a1:V) (h:Run W d zf6 [] [some a0,some a1] H (zan R)):zae W (d+1) (.ref 112) [a0,a1] H R:=by walk_at "d"
noncomputable def zgt:List I:=[.lit (.raw (.ref 98)),Y1,Y2,.call 2,Y0,.sattr 0,iF,Y0,.sattr 1,.lit (.tup [.str (S "single"),.str (S "wide"),.str (S "top"),.str (S "bottom")]),(iI 0),.idx,Y0,.sattr 2]
theorem zlr (a0 a1 a2:V) (h:Run W d zgt [] [some a0,some a1,some a2] H (zan R)):zae W (d+1) (.ref 140) [a0,a1,a2] H R:=by walk_at "d"
noncomputable def zgD:List I:=[.lit (.raw (.ref 112)),Y0,.attr 0,Y1,.call 2,.pop]
theorem zlC (a0 a1:V) (h:Run W d zgD [] [some a0,some a1] H (zan R)):zae W (d+1) (.ref 162) [a0,a1] H R:=by walk_at "d"
noncomputable def zgE:List I:=[(iI 0),Y1,.cmpk .LtE,.ite [.lit (.raw (.builtin "len")),Y0,.attr 0,.call 1,.cmp .Lt] [.pop,iF],.chk,.notb,.ite [iT] [Y2,(iI 1),.idx,(iI 0),.cmp .Eq,.chk],.ite [.lit (.none),.ret] [],Y2,(iI 1),.idx,(iI 2),.cmp .Eq,.chk,.ite [Y1,(iI 1),.bin .Add,.lit (.raw (.builtin "len")),Y0,.attr 0,.call 1,.cmp .Eq,.chk] [iF],.ite [.lit (.raw (.ref 76)),Y2,(iI 2),.idx,.call 1,.sto 2] [],Y0,.mth 0,Y1,.call 2,.pop,Y0,.mth 0,Y1,Y2,(iI 1),.idx,.bin .Add,.call 2,.pop,Y2,Y0,.attr 0,Y1,.sidx,Y2,(iI 1),.idx,(iI 2),.cmp .Eq,.chk,.ite [.lit (.raw (.ref 105)),Y2,.call 1,Y0,.attr 0,Y1,(iI 1),.bin .Add,.sidx] []]
theorem zlD (a0 a1 a2:V) (h:Run W d zgE [] [some a0,some a1,some a2] H (zan R)):zae W (d+1) (.ref 169) [a0,a1,a2] H R:=by walk_at "d"
noncomputable def zgF:List I:=[Y0,.attr 0,Y0,.attr 1,Y0,.attr 2,.tup 3,Y1,.attr 0,Y1,.attr 1,Y1,.attr 2,.tup 3,.cmp .Eq,.ret]
theorem zlE (a0 a1:V) (h:Run W d zgF [] [some a0,some a1] H (zan R)):zae W (d+1) (.ref 248) [a0,a1] H R:=by walk_at "d"
noncomputable def zeA:List I:=[Y1,(iI 1),.cmp .Lt,.chk,.ite [iT] [Y2,(iI 1),.cmp .Lt,.chk],.ite [.bad] [],Y1,Y0,.sattr 3,Y2,Y0,.sattr 4,.has [none,some 2],Y1,.lc .range 1 [none,some 2] [.sto 0] [.lit (.raw (.ref 251)),Y1,.lit (.tup [.int (0),.int (-1),.int (-1),.int (-1),.int 0]),.call 2],Y0,.sattr 5]
theorem zlF (a0 a1 a2:V) (h:Run W d zeA [] [some a0,some a1,some a2] H (zan R)):zae W (d+1) (.ref 267) [a0,a1,a2] H R:=zde (zky _) rfl (by kernel_rfl) (by rw [show zbx 22 0=zeA by kernel_rfl,show ro0 22 0 (zaA (dg 22 0)) ([a0,a1,a2]++[])=[some a0,some a1,some a2] by kernel_rfl]; exact h)
noncomputable def zeB:List I:=[Y0,.attr 5,Y1,.idx,.ret]
theorem zhU (a0 a1:V) (h:Run W d zeB [] [some a0,some a1] H (zan R)):zae W (d+1) (.ref 274) [a0,a1] H R:=by walk_at "d"
noncomputable def zgG:List I:=[Y1,(iI 1),.idx,(iI 0),.cmp .Eq,.chk,.ite [Y1,(iI 3),.idx,Y0,.attr 4,(iI 1),.bin .Sub,.cmp .Eq,.chk] [iF],.ret]
theorem zlG (a0 a1:V) (h:Run W d zgG [] [some a0,some a1] H (zan R)):zae W (d+1) (.ref 288) [a0,a1] H R:=by walk_at "d"
noncomputable def zeC:List I:=[.has [none,some 2,some 0],Y1,.lc .range 1 [none,some 2,some 0] [.sto 0] [.lit (.raw (.ref 251)),Y2,.attr 4,Y1,.call 2],.ret]
theorem zlH (a0 a1 a2:V) (h:Run W d zeC [] [some a0,some a1,some a2] H (zan R)):zae W (d+1) (.ref 293) [a0,a1,a2] H R:=zde (zkz _) rfl (by kernel_rfl) (by rw [show zbx 22 4=zeC by kernel_rfl,show ro0 22 4 (zaA (dg 22 4)) ([a0,a1,a2]++[])=[some a0,some a1,some a2] by kernel_rfl]; exact h)
noncomputable def zeD:List I:=[Y1,(iI 0),.cmp .Gt,.chk,.ite [iF,Y0,.attr 5,Y1,(iI 1),.bin .Sub,.idx,.sattr 1] []]
theorem zhV (a0 a1:V) (h:Run W d zeD [] [some a0,some a1] H (zan R)):zae W (d+1) (.ref 300) [a0,a1] H R:=by walk_at "d"
noncomputable def zgH:List I:=[Y1,.unp 4,.sto 4,.sto 5,.sto 6,.sto 7,.lit (.raw (.ref 62)),Y2,(iI 0),Y6,Y4,.bin .Sub,(iI 1),.bin .Add,.call 3,.sto 2,Y2,(iI 0),.cmp .Eq,.chk,.ite [.lst 0,.ret] [],Y0,.mth 4,Y1,.call 2,.chk,.notb,.ite [Y4,Y6,(iI 1),.bin .Add,Y2,.bin .Sub,.fr .range 2 [.sto 8] [.bad,.pop],.bad,.pop,.bad,.pop,.lst 0,.ret] [],Y0,.attr 5,Y4,Y4,Y2,.bin .Add,.slc,.sto 9,Y0,.attr 5,Y4,Y2,.bin .Add,Y6,(iI 1),.bin .Add,.slc,.sto 10,Y10,.lst 0,.cmp .Eq,.chk,.ite [iF,Y9,(iI 1),.neg,.idx,.sattr 1] [],Y0,.attr 5,.lit (.none),Y4,.slc,Y10,.bin .Add,Y0,.mth 5,Y2,Y3,.call 3,.bin .Add,Y0,.attr 5,Y6,(iI 1),.bin .Add,.lit (.none),.slc,.bin .Add,Y0,.sattr 5,Y0,.mth 6,Y4,.call 2,.pop,Y0,.mth 6,Y6,(iI 1),.bin .Add,Y2,.bin .Sub,.call 2,.pop,Y9,.ret]
theorem zlI (a0 a1 a2 a3:V) (h:Run W d zgH [] [some a0,some a1,some a2,some a3,none,none,none,none,none,none,none] H (zan R)):zae W (d+1) (.ref 307) [a0,a1,a2,a3] H R:=by walk_at "d"
noncomputable def zgI:List I:=[Y0,.attr 3,Y1,.attr 3,.cmp .NotEq,.chk,.ite [iT] [Y0,.attr 4,Y1,.attr 4,.cmp .NotEq,.chk],.ite [iF,.ret] [],.lit (.raw (.builtin "all")),.has [none,none],Y0,.attr 5,Y1,.attr 5,.lc .zip 2 [none,none] [.unp 2,.sto 0,.sto 1] [Y0,.mth 2,Y1,.call 2],.call 1,.ret]
theorem zlJ (a0 a1:V) (h:Run W d zgI [] [some a0,some a1] H (zan R)):zae W (d+1) (.ref 388) [a0,a1] H R:=by walk_at "d"
noncomputable def zgJ:List I:=[Y1,Y0,.sattr 6,.lst 0,Y0,.sattr 5,(iI 0),Y0,.sattr 7]
theorem zlK (a0 a1:V) (h:Run W d zgJ [] [some a0,some a1] H (zan R)):zae W (d+1) (.ref 428) [a0,a1] H R:=by walk_at "d"
noncomputable def zgK:List I:=[Y0,.attr 5,.mth 41,Y1,.call 2,.pop,.lit (.raw (.builtin "len")),Y0,.attr 5,.call 1,Y0,.attr 6,.cmp .LtE,.chk,.ite [.lit (.none),.ret] [],.bad,Y0,.attr 5,.mth 43,(iI 0),.call 2,.ret]
theorem zlL (a0 a1:V) (h:Run W d zgK [] [some a0,some a1] H (zan R)):zae W (d+1) (.ref 442) [a0,a1] H R:=by walk_at "d"
noncomputable def zgL:List I:=[.lit (.raw (.ref 487)),Y0,.attr 5,Y1,.attr 5,.call 2,.ret]
theorem zlM (a0 a1:V) (h:Run W d zgL [] [some a0,some a1] H (zan R)):zae W (d+1) (.ref 475) [a0,a1] H R:=by walk_at "d"
noncomputable def zgM:List I:=[.lit (.raw (.builtin "len")),Y0,.call 1,.lit (.raw (.builtin "len")),Y1,.call 1,.cmp .NotEq,.chk,.ite [iF,.ret] [],.lit (.raw (.builtin "all")),.has [none,none],Y0,Y1,.lc .zip 2 [none,none] [.unp 2,.sto 0,.sto 1] [Y0,.mth 2,Y1,.call 2],.call 1,.ret]
theorem zlN (a0 a1:V) (h:Run W d zgM [] [some a0,some a1] H (zan R)):zae W (d+1) (.ref 487) [a0,a1] H R:=by walk_at "d"
noncomputable def zgN:List I:=[Y1,Y0,.sattr 8,Y2,Y0,.sattr 2,.lst 0,Y0,.sattr 9,.lst 0,Y0,.sattr 0,iT,Y0,.sattr 10]
theorem zlO (a0 a1 a2:V) (h:Run W d zgN [] [some a0,some a1,some a2] H (zan R)):zae W (d+1) (.ref 501) [a0,a1,a2] H R:=by walk_at "d"
noncomputable def zgO:List I:=[Y0,.attr 9,.mth 41,.lit (.raw (.builtin "len")),Y0,.attr 0,.call 1,.call 2,.pop,Y0,.attr 0,.mth 42,Y1,.call 2,.pop]
theorem zlP (a0 a1:V) (h:Run W d zgO [] [some a0,some a1] H (zan R)):zae W (d+1) (.ref 508) [a0,a1] H R:=by walk_at "d"
noncomputable def zgP:List I:=[.whl [.lit (.raw (.builtin "len")),Y0,.attr 0,.call 1,Y1,.cmp .Lt,.chk] [Y0,.attr 0,.mth 41,.lit (.raw (.ref 76)),.lit (.tup [.int (0),.int (-1),.int (-1),.int (-1),.int 0]),.call 1,.call 2,.pop]]
theorem zlQ (a0 a1:V) (h:Run W d zgP [] [some a0,some a1] H (zan R)):zae W (d+1) (.ref 515) [a0,a1] H R:=by walk_at "d"
noncomputable def zeE:List I:=[Y1,(iI 1),.bin .Add,.lit (.raw (.builtin "len")),Y0,.attr 9,.call 1,.cmp .Lt,.chk,.ite [Y0,.attr 9,Y1,(iI 1),.bin .Add,.idx,Y0,.attr 9,Y1,.idx,.bin .Sub] [.lit (.none)],.ret]
theorem zhW (a0 a1:V) (h:Run W d zeE [] [some a0,some a1] H (zan R)):zae W (d+1) (.ref 522) [a0,a1] H R:=by walk_at "d"
noncomputable def zgQ:List I:=[Y0,.mth 10,Y1,.call 2,.sto 3,Y3,.lit (.none),.cmp .IsNot,.chk,.ite [Y2,Y3,.cmpk .GtE,.ite [(iI 0),.cmp .Gt] [.pop,iF],.chk] [iF],.ite [Y0,.attr 9,Y1,.idx,Y3,.bin .Add,(iI 1),.bin .Sub,iT,.tup 2,.ret] [],Y0,.attr 9,Y1,.idx,Y2,.bin .Add,iF,.tup 2,.ret]
theorem zlR (a0 a1 a2:V) (h:Run W d zgQ [] [some a0,some a1,some a2,none] H (zan R)):zae W (d+1) (.ref 529) [a0,a1,a2] H R:=by walk_at "d"
noncomputable def zgR:List I:=[.lit (.raw (.builtin "len")),Y0,.call 1,.sto 1,.whl [Y1,(iI 0),.cmp .Gt,.chk,.ite [.lit (.raw (.ref 90)),Y0,Y1,(iI 1),.bin .Sub,.idx,.call 1,.chk] [iF]] [Y1,(iI 1),.bin .Sub,.sto 1],Y0,.lit (.none),Y1,.slc,.ret]
theorem zlS (a0:V) (h:Run W d zgR [] [some a0,none] H (zan R)):zae W (d+1) (.ref 543) [a0] H R:=by walk_at "d"
noncomputable def zgS:List I:=[.lit (.raw (.builtin "len")),Y0,.attr 0,.call 1,(iI 0),.cmp .Gt,.chk,.ite [Y0,.attr 0,(iI 0),.idx,(iI 1),.idx,(iI 2),.cmp .Eq,.chk] [iF],.ret]
theorem zlT (a0:V) (h:Run W d zgS [] [some a0] H (zan R)):zae W (d+1) (.ref 550) [a0] H R:=by walk_at "d"
noncomputable def zeF:List I:=[Y0,Y1,.idx,.attr 0,.sto 2,.lit (.raw (.ref 564)),Y0,Y1,.call 2,.chk,.notb,.ite [.lit (.raw (.ref 543)),Y2,.call 1,.ret] [],.lit (.raw (.ref 83)),Y2,(iI 1),.neg,.idx,.call 1,.chk,.ite [.lit (.raw (.ref 550)),Y0,Y1,(iI 1),.bin .Add,.idx,.call 1,.chk] [iF],.ite [Y2,.lit (.none),(iI 1),.neg,.slc,.ret] [],Y2,.ret]
theorem zhX (a0 a1:V) (h:Run W d zeF [] [some a0,some a1,none] H (zan R)):zae W (d+1) (.ref 557) [a0,a1] H R:=by walk_at "d"
noncomputable def zgT:List I:=[Y1,(iI 1),.bin .Add,.lit (.raw (.builtin "len")),Y0,.call 1,.cmp .GtE,.chk,.ite [iT] [Y0,Y1,.idx,.attr 1,.chk,.notb,.ite [iT] [.lit (.raw (.builtin "len")),Y0,Y1,.idx,.attr 0,.call 1,(iI 0),.cmp .Eq,.chk]],.ite [iF,.ret] [],Y0,Y1,.idx,.attr 2,.lit (.str (S "single")),.cmp .Eq,.chk,.ite [Y0,Y1,(iI 1),.bin .Add,.idx,.attr 2,.lit (.str (S "single")),.cmp .Eq,.chk] [iF],.ret]
theorem zlU (a0 a1:V) (h:Run W d zgT [] [some a0,some a1] H (zan R)):zae W (d+1) (.ref 564) [a0,a1] H R:=by walk_at "d"
noncomputable def zgU:List I:=[.lst 0,(iI 0),.tup 2,.unp 2,.sto 1,.sto 2,.whl [Y2,.lit (.raw (.builtin "len")),Y0,.call 1,.cmp .Lt,.chk] [.lit (.raw (.ref 532)),Y2,Y0,Y2,.idx,.attr 2,.call 2,.sto 3,.whl [.lit (.raw (.ref 564)),Y0,Y2,.call 2,.chk] [Y3,.mth 1,.lit (.raw (.ref 557)),Y0,Y2,.call 2,.call 2,.pop,Y2,(iI 1),.bin .Add,.sto 2],Y3,.mth 1,.lit (.raw (.ref 557)),Y0,Y2,.call 2,.call 2,.pop,Y0,Y2,.idx,.attr 1,.chk,.notb,Y3,.sattr 10,Y1,.mth 41,Y3,.call 2,.pop,Y2,(iI 1),.bin .Add,.sto 2],Y1,.ret]
theorem zlV (a0:V) (h:Run W d zgU [] [some a0,none,none,none] H (zan R)):zae W (d+1) (.ref 571) [a0] H R:=by walk_at "d"
noncomputable def zgV:List I:=[.lst 0,.lst 0,.lst 0,(iI 0),.tup 4,.unp 4,.sto 2,.sto 3,.sto 4,.sto 5,.whl [Y5,.lit (.raw (.builtin "len")),Y0,.call 1,.cmp .Lt,.chk] [Y0,Y5,.idx,.sto 6,Y6,(iI 1),.idx,(iI 2),.cmp .Eq,.chk,.ite [Y5,(iI 1),.bin .Add,.lit (.raw (.builtin "len")),Y0,.call 1,.cmp .Lt,.chk,.ite [Y0,Y5,(iI 1),.bin .Add,.idx,(iI 1),.idx,(iI 0),.cmp .Eq,.chk] [iF]] [iF],.ite [(iI 2)] [(iI 1)],.sto 7,Y0,Y5,Y5,Y7,.bin .Add,.slc,.sto 8,Y7,Y1,.cmp .Gt,.chk,.ite [iT] [Y7,(iI 1),.cmp .Eq,.chk,.ite [Y6,(iI 1),.idx,(iI 1),.cmp .NotEq,.chk] [iF]],.ite [.lit (.raw (.ref 76)),Y6,(iI 2),.idx,.call 1,.lst 1,.sto 8] [],.lit (.raw (.builtin "len")),Y3,.call 1,.lit (.raw (.builtin "len")),Y8,.call 1,.bin .Add,Y1,.cmp .Gt,.chk,.ite [.lit (.raw (.builtin "len")),Y3,.call 1,Y1,.cmp .Lt,.chk,.ite [Y3,.mth 41,.lit (.raw (.ref 76)),.lit (.tup [.int (0),.int (-1),.int (-1),.int (-1),.int 0]),.call 1,.call 2,.pop] [],Y2,.mth 41,Y3,.call 2,.pop,.lst 0,.sto 3] [],Y7,.fr .range 1 [.sto 9] [Y4,.mth 41,.lit (.raw (.builtin "len")),Y2,.call 1,.lit (.raw (.builtin "len")),Y3,.call 1,.lit (.raw (.builtin "min")),Y9,.lit (.raw (.builtin "len")),Y8,.call 1,(iI 1),.bin .Sub,.call 2,.bin .Add,.tup 2,.call 2,.pop],Y3,.mth 42,Y8,.call 2,.pop,Y5,Y7,.bin .Add,.sto 5],Y2,.mth 41,Y3,.call 2,.pop,Y2,Y4,.tup 2,.ret]
theorem zlW (a0 a1:V) (h:Run W d zgV [] [some a0,some a1,none,none,none,none,none,none,none,none] H (zan R)):zae W (d+1) (.ref 578) [a0,a1] H R:=by walk_at "d"
noncomputable def zgW:List I:=[Y2,.lit (.raw (.builtin "len")),Y1,.call 1,.cmp .Lt,.chk,.ite [Y1,Y2,.idx,.ret] [],.lit (.raw (.builtin "len")),Y0,.call 1,(iI 1),.bin .Sub,.lit (.raw (.builtin "len")),Y0,(iI 1),.neg,.idx,.call 1,.tup 2,.ret]
theorem zlX (a0 a1 a2:V) (h:Run W d zgW [] [some a0,some a1,some a2] H (zan R)):zae W (d+1) (.ref 585) [a0,a1,a2] H R:=by walk_at "d"
noncomputable def zgX:List I:=[.lit (.raw (.ref 251)),Y1,.lit (.tup [.int (0),.int (-1),.int (-1),.int (-1),.int 0]),.call 2,.sto 3,Y0,.fr .enum 1 [.unp 2,.sto 4,.sto 5] [Y5,Y3,.attr 0,Y4,.sidx],Y2,Y3,.sattr 1,Y3,.ret]
theorem zlY (a0 a1 a2:V) (h:Run W d zgX [] [some a0,some a1,some a2,none,none,none] H (zan R)):zae W (d+1) (.ref 592) [a0,a1,a2] H R:=by walk_at "d"
noncomputable def zgY:List I:=[Y2,Y0,.sattr 4,.lst 0,Y0,.sattr 5,(iI 0),Y0,.sattr 8,(iI 0),Y0,.sattr 11,(iI 0),Y0,.sattr 12,iF,Y0,.sattr 13,.lst 0,Y0,.sattr 14,.lit (.raw (.ref 571)),Y1,.call 1,.fr .plain 1 [.sto 5] [Y0,.mth 1,Y5,Y1,Y3,Y4,.call 5,.pop]]
theorem zlZ (a0 a1 a2 a3 a4:V) (h:Run W d zgY [] [some a0,some a1,some a2,some a3,some a4,none] H (zan R)):zae W (d+1) (.ref 606) [a0,a1,a2,a3,a4] H R:=by walk_at "d"
noncomputable def zgZ:List I:=[.lit (.raw (.builtin "len")),Y0,.attr 5,.call 1,Y1,.attr 8,.lit (.raw (.builtin "len")),Y1,.attr 9,.call 1,.bin .Add,(iI 1),.bin .Sub,.tup 2,.unp 2,.sto 5,.sto 6,Y1,.attr 2,.lit (.str (S "single")),.cmp .NotEq,.chk,.ite [Y0,.attr 5,.mth 41,.bad,.call 2,.pop,Y0,.attr 14,.mth 41,Y5,(iI 0),.lit (.none),.lit (.none),.lit (.none),.tup 5,.call 2,.pop,Y1,.attr 8,Y3,.cmp .Eq,.chk,.ite [Y5,Y0,.sattr 8] [],Y1,.attr 8,Y4,(iI 0),.idx,.cmp .Eq,.chk,.ite [Y5,.lit (.raw (.builtin "min")),Y4,(iI 1),.idx,Y0,.attr 4,(iI 1),.bin .Sub,.call 2,.tup 2,.unp 2,Y0,.sattr 11,Y0,.sattr 12,Y4,(iI 2),.idx,.chk,.ite [Y2,Y1,.attr 8,.idx,.attr 4,Y0,.attr 4,.cmp .Eq,.chk] [iF],Y0,.sattr 13] [],.lit (.none),.ret] [],Y1,.attr 8,Y4,(iI 0),.idx,.cmpk .LtE,.ite [Y6,.cmp .LtE] [.pop,iF],.sto 7,Y7,.chk,.ite [Y1,.mth 11,Y4,(iI 0),.idx,Y1,.attr 8,.bin .Sub,Y4,(iI 1),.idx,.call 3] [(iI 0),iF,.tup 2],.unp 2,.sto 8,.sto 9,.lit (.raw (.ref 578)),Y1,.attr 0,Y0,.attr 4,.call 2,.unp 2,.sto 10,.sto 11,Y7,.chk,.ite [Y4,(iI 2),.idx,.chk,.notb,.ite [(iI 0),.lit (.raw (.builtin "len")),Y1,.attr 0,.call 1,.cmpk .Lt,.ite [Y8,.cmp .Eq] [.pop,iF],.chk,.ite [.lit (.raw (.builtin "len")),Y10,(iI 1),.neg,.idx,.call 1,Y0,.attr 4,.cmp .Eq,.chk] [iF]] [iF]] [iF],.sto 12,Y7,.chk,.ite [Y12,.chk,.notb] [iF],.ite [Y1,.mth 9,Y8,(iI 1),.bin .Add,.call 2,.pop,.lit (.raw (.ref 578)),Y1,.attr 0,Y0,.attr 4,.call 2,.unp 2,.sto 10,.sto 11] [],Y1,.attr 9,.fr .enum 1 [.unp 2,.sto 13,.sto 14] [Y0,.attr 14,.mth 41,Y5,Y14,Y1,.mth 10,Y13,.call 2,Y10,Y11,.tup 5,.call 2,.pop],Y10,.fr .enum 1 [.unp 2,.sto 15,.sto 16] [Y15,(iI 1),.bin .Add,.lit (.raw (.builtin "len")),Y10,.call 1,.cmp .Lt,.chk,.ite [iT] [Y1,.attr 10,.chk,.notb],.sto 17,Y0,.attr 5,.mth 41,.lit (.raw (.ref 592)),Y16,Y0,.attr 4,Y17,.call 3,.call 2,.pop],Y1,.attr 8,Y3,.cmpk .LtE,.ite [Y6,.cmp .LtE] [.pop,iF],.chk,.ite [.lit (.raw (.ref 585)),Y10,Y11,Y1,.attr 9,Y3,Y1,.attr 8,.bin .Sub,.idx,.call 3,.sto 18,Y5,Y18,(iI 0),.idx,.bin .Add,Y0,.sattr 8] [],Y7,.chk,.ite [.lit (.raw (.ref 585)),Y10,Y11,Y8,.call 3,.sto 18,Y5,Y18,(iI 0),.idx,.bin .Add,.lit (.raw (.builtin "min")),Y18,(iI 1),.idx,Y0,.attr 4,(iI 1),.bin .Sub,.call 2,.tup 2,.unp 2,Y0,.sattr 11,Y0,.sattr 12,Y12,.chk,.ite [iT,Y0,.sattr 13] [Y9,.chk,.ite [.lit (.raw (.builtin "min")),Y0,.attr 12,(iI 1),.bin .Add,Y0,.attr 4,(iI 1),.bin .Sub,.call 2,Y0,.sattr 12] [Y4,(iI 2),.idx,.chk,.ite [Y0,.mth 12,.call 1,.pop] []]]] []]
theorem zl0 (a0 a1 a2 a3 a4:V) (h:Run W d zgZ [] [some a0,some a1,some a2,some a3,some a4,none,none,none,none,none,none,none,none,none,none,none,none,none,none] H (zan R)):zae W (d+1) (.ref 613) [a0,a1,a2,a3,a4] H R:=by walk_at "d"
noncomputable def zg1:List I:=[Y0,.attr 12,(iI 1),.bin .Add,Y0,.attr 4,.cmp .Lt,.chk,.ite [Y0,.attr 12,(iI 1),.bin .Add,Y0,.sattr 12] [iT,Y0,.sattr 13]]
theorem zl2 (a0:V) (h:Run W d zg1 [] [some a0] H (zan R)):zae W (d+1) (.ref 620) [a0] H R:=by walk_at "d"
noncomputable def zg2:List I:=[.whl [.lit (.raw (.builtin "len")),Y0,.attr 5,.call 1,Y0,.attr 8,.bin .Sub,Y1,.cmp .Gt,.chk,.ite [.lit (.raw (.builtin "len")),Y0,.attr 5,.call 1,(iI 1),.bin .Sub,Y0,.attr 11,.cmp .Gt,.chk] [iF]] [Y0,.attr 5,(iI 1),.neg,.idx,.sto 2,Y2,.attr 1,.chk,.ite [iT] [Y2,.attr 2,.lit (.str (S "single")),.cmp .NotEq,.chk,.ite [iT] [.lit (.raw (.ref 543)),Y2,.attr 0,.call 1,.lst 0,.cmp .NotEq,.chk]],.ite [.lit (.none),.ret] [],Y0,.attr 5,.mth 43,.call 1,.pop]]
theorem zl3 (a0 a1:V) (h:Run W d zg2 [] [some a0,some a1,none] H (zan R)):zae W (d+1) (.ref 634) [a0,a1] H R:=by walk_at "d"
noncomputable def zg3:List I:=[.lit (.raw (.builtin "len")),Y0,.attr 5,.call 1,Y0,.attr 8,.bin .Sub,Y1,.cmp .Gt,.chk,.ite [.lit (.raw (.builtin "min")),.lit (.raw (.builtin "len")),Y0,.attr 5,.call 1,Y1,.bin .Sub,Y0,.attr 11,.call 2,.ret] [],.lit (.raw (.builtin "max")),(iI 0),.lit (.raw (.builtin "min")),Y0,.attr 8,.lit (.raw (.builtin "len")),Y0,.attr 5,.call 1,Y1,.bin .Sub,.call 2,.call 2,.ret]
theorem zl4 (a0 a1:V) (h:Run W d zg3 [] [some a0,some a1] H (zan R)):zae W (d+1) (.ref 641) [a0,a1] H R:=by walk_at "d"
noncomputable def zg4:List I:=[Y0,.attr 33,.lit (.none),.cmp .IsNot,.chk,.ite [Y0,.attr 33,.attr 5] [.lst 0],.sto 3,.lit (.raw (.builtin "len")),Y3,.call 1,Y0,.attr 35,.attr 11,.bin .Add,Y0,.attr 35,.attr 12,Y0,.attr 35,.attr 13,.tup 3,.sto 4,.lit (.raw (.ref 644)),Y3,Y0,.attr 34,.attr 5,.bin .Add,Y2,.lit (.raw (.builtin "len")),Y3,.call 1,Y4,.call 4,.sto 5,Y5,.mth 13,Y1,.call 2,.pop,Y5,.ret]
theorem zl5 (a0 a1 a2:V) (h:Run W d zg4 [] [some a0,some a1,some a2,none,none,none] H (zan R)):zae W (d+1) (.ref 655) [a0,a1,a2] H R:=by walk_at "d"
noncomputable def zg5:List I:=[.lit (.raw (.ref 655)),Y0,Y1,Y2,.call 3,.sto 3,Y3,.mth 14,Y1,.call 2,.sto 4,.lit (.none),.sto 5,Y0,.attr 33,.lit (.none),.cmp .IsNot,.chk,.ite [.lit (.raw (.ref 478)),Y0,.attr 33,.attr 6,.call 1,.sto 5,Y0,.attr 33,.attr 7,Y5,.sattr 7,Y3,.attr 5,.lit (.none),Y4,.slc,.fr .plain 1 [.sto 6] [Y5,.mth 8,Y6,.call 2,.pop]] [],.lit (.raw (.ref 396)),Y1,Y2,.call 2,.sto 7,Y3,.attr 5,Y4,Y4,Y1,.bin .Add,.slc,.fr .enum 1 [.unp 2,.sto 8,.sto 6] [Y6,Y7,.attr 5,Y8,.sidx],Y4,Y1,.bin .Add,.lit (.raw (.builtin "len")),Y3,.attr 5,.call 1,.cmp .Lt,.chk,.ite [iF,Y7,.attr 5,Y1,(iI 1),.bin .Sub,.idx,.sattr 1] [],Y7,Y5,Y3,.attr 11,Y4,.bin .Sub,Y3,.attr 12,Y3,.attr 13,.tup 3,.tup 3,.ret]
theorem zl6 (a0 a1 a2:V) (h:Run W d zg5 [] [some a0,some a1,some a2,none,none,none,none,none,none] H (zan R)):zae W (d+1) (.ref 662) [a0,a1,a2] H R:=by walk_at "d"
noncomputable def zg6:List I:=[(iI 0),.lit (.raw (.builtin "len")),Y0,.call 1,.tup 2,.unp 2,.sto 2,.sto 3,.whl [Y2,Y3,.cmp .Lt,.chk] [Y2,Y3,.bin .Add,(iI 2),.bin .FloorDiv,.sto 4,Y0,Y4,.idx,(iI 1),.idx,Y1,.cmp .Lt,.chk,.ite [Y4,(iI 1),.bin .Add,.sto 2] [Y4,.sto 3]],Y2,.lit (.raw (.builtin "len")),Y0,.call 1,.cmp .Lt,.chk,.ite [Y0,Y2,.idx,(iI 0),.idx,Y1,.cmp .LtE,.chk] [iF],.ret]
theorem zl7 (a0 a1:V) (h:Run W d zg6 [] [some a0,some a1,none,none,none] H (zan R)):zae W (d+1) (.ref 678) [a0,a1] H R:=by walk_at "d"
noncomputable def zg7:List I:=[(iI 1),.neg,.sto 1,Y0,.fr .enum 1 [.unp 2,.sto 2,.unp 2,.sto 3,.sto 4] [Y1,Y3,.cmpk .Lt,.ite [Y4,.cmp .LtE] [.pop,iF],.chk,.notb,.ite [.bad] [],Y4,.sto 1]]
theorem zl8 (a0:V) (h:Run W d zg7 [] [some a0,none,none,none,none] H (zan R)):zae W (d+1) (.ref 685) [a0] H R:=by walk_at "d"
noncomputable def zg9:List I:=[.lit (.raw (.type "list")),Y1,.call 1,Y0,.sattr 15,.lit (.raw (.type "list")),Y2,.call 1,Y0,.sattr 16,.lit (.raw (.type "list")),Y3,.call 1,Y0,.sattr 17,Y0,.attr 15,Y0,.attr 16,Y0,.attr 17,.tup 3,.fr .plain 1 [.sto 4] [.lit (.raw (.ref 685)),Y4,.call 1,.pop]]
theorem zma (a0 a1 a2 a3:V) (h:Run W d zg9 [] [some a0,some a1,some a2,some a3,none] H (zan R)):zae W (d+1) (.ref 699) [a0,a1,a2,a3] H R:=by walk_at "d"
noncomputable def zha:List I:=[.lit (.raw (.ref 678)),Y0,.attr 16,Y1,.call 2,.chk,.ite [(iI 0),.ret] [],.lit (.raw (.ref 678)),Y0,.attr 15,Y1,.call 2,.chk,.ite [(iI 2)] [(iI 1)],.ret]
theorem zmb (a0 a1:V) (h:Run W d zha [] [some a0,some a1] H (zan R)):zae W (d+1) (.ref 706) [a0,a1] H R:=by walk_at "d"
noncomputable def zhc:List I:=[.dct 0,Y0,.sattr 18,.dct 0,Y0,.sattr 19,.lit (.tup [.str (S "send_receive"),.str (S "autowrap"),.str (S "autorepeat"),.str (S "show_cursor"),.str (S "num_lock")]),.fr .plain 1 [.sto 1] [iT,Y0,.attr 18,Y1,.sidx]]
theorem zmd (a0:V) (h:Run W d zhc [] [some a0,none] H (zan R)):zae W (d+1) (.ref 775) [a0] H R:=by walk_at "d"
noncomputable def zhd:List I:=[Y0,.attr 18,.mth 44,Y1,iF,.call 3,.ret]
theorem zme (a0 a1:V) (h:Run W d zhd [] [some a0,some a1] H (zan R)):zae W (d+1) (.ref 782) [a0,a1] H R:=by walk_at "d"
noncomputable def zhf:List I:=[Y0,.lit (.bytes #[66]),.cmp .Eq,.chk,.ite [.dct 0,.ret] [],Y0,.lit (.bytes #[65]),.cmp .Eq,.chk,.ite [.bad,.lit (.bytes #[35]),(iI 163),.lst 1,.call 2,.ret] [],Y0,.lit (.bytes #[48]),.cmp .Eq,.chk,.ite [.bad,.call 0,.ret] [],Y0,.lit (.bytes #[37,53]),.cmp .Eq,.chk,.ite [iT] [Y0,.lit (.bytes #[60]),.cmp .Eq,.chk],.ite [.bad,iT,.call 1,.ret] [],Y0,.bad,.cmp .Eq,.chk,.ite [.bad,iF,.call 1] [.bad,Y0,.call 1],.ret]
theorem zmg (a0:V) (h:Run W d zhf [] [some a0] H (zan R)):zae W (d+1) (.ref 831) [a0] H R:=by walk_at "d"
noncomputable def zeG:List I:=[Y1,.lit (.none),.cmp .Is,.chk,.ite [.dct 0] [Y1],Y0,.sattr 20,Y0,.mth 18,.call 1,.pop]
theorem zmh (a0:V) (h:Run W d zeG [] [some a0,some V.none] H (zan R)):zae W (d+1) (.ref 846) [a0] H R:=zde (zkA _) rfl (by kernel_rfl) (by rw [show zbx 76 0=zeG by kernel_rfl,show ro0 76 0 (zaA (dg 76 0)) ([a0]++[V.none])=[some a0,some V.none] by kernel_rfl]; exact h)
noncomputable def zhg:List I:=[Y1,Y0,.attr 20,.cmp .NotIn,.chk,.ite [.lit (.raw (.ref 831)),Y1,.call 1,Y0,.attr 20,Y1,.sidx] [],Y0,.attr 20,Y1,.idx,.ret]
theorem zmi (a0 a1:V) (h:Run W d zhg [] [some a0,some a1] H (zan R)):zae W (d+1) (.ref 853) [a0,a1] H R:=by walk_at "d"
noncomputable def zhh:List I:=[.lit (.bytes #[66]),.lit (.bytes #[66]),.lit (.bytes #[37,53]),.lit (.bytes #[37,53]),.lst 4,Y0,.sattr 21,(iI 0),Y0,.sattr 22,(iI 2),Y0,.sattr 23,.lit (.none),Y0,.sattr 24]
theorem zmj (a0:V) (h:Run W d zhh [] [some a0] H (zan R)):zae W (d+1) (.ref 860) [a0] H R:=by walk_at "d"
noncomputable def zhj:List I:=[Y0,.attr 24,.lit (.none),.cmp .Is,.chk,.ite [Y0,.attr 22] [Y0,.attr 24],.sto 3,Y0,.attr 24,.lit (.none),.cmp .IsNot,.sto 4,.lit (.none),Y0,.sattr 24,(iI 32),Y1,.cmpk .LtE,.ite [(iI 127),.cmp .LtE] [.pop,iF],.chk,.ite [Y0,.mth 17,Y0,.attr 21,Y3,.idx,.call 2,.mth 44,Y1,Y1,.call 3,.ret] [],Y2,.chk,.ite [(iI 160),Y1,.cmpk .LtE,.ite [(iI 255),.cmp .LtE] [.pop,iF],.chk] [iF],.ite [Y4,.chk,.ite [Y3] [Y0,.attr 23],.sto 3,.bad,Y0,.mth 17,Y0,.attr 21,Y3,.idx,.call 2,Y1,.call 2,.ret] [],Y1,.ret]
theorem zml (a0 a1 a2:V) (h:Run W d zhj [] [some a0,some a1,some a2,none,none] H (zan R)):zae W (d+1) (.ref 910) [a0,a1,a2] H R:=zcC (zkB _) (by kernel_rfl) (by kernel_rfl) (by kernel_rfl) h
noncomputable def zhk:List I:=[(iI 0),Y0,.sattr 11,(iI 0),Y0,.sattr 12,iF,Y0,.sattr 13,.lit (.tup [.int (0),.int (-1),.int (-1),.int (-1),.int 0]),Y0,.sattr 25,iF,Y0,.sattr 26,iF,Y0,.sattr 27]
theorem zmm (a0:V) (h:Run W d zhk [] [some a0] H (zan R)):zae W (d+1) (.ref 945) [a0] H R:=by walk_at "d"
noncomputable def zhl:List I:=[Y0,.attr 11,Y0,.attr 12,.tup 2,.ret]
theorem zmn (a0:V) (h:Run W d zhl [] [some a0] H (zan R)):zae W (d+1) (.ref 966) [a0] H R:=by walk_at "d"
noncomputable def zhm:List I:=[Y0,.mth 20,.call 1,Y1,.mth 20,.call 1,.cmp .NotEq,.chk,.ite [iT] [Y0,.attr 13,Y1,.attr 13,.cmp .NotEq,.chk,.ite [iT] [Y0,.attr 25,Y1,.attr 25,.cmp .NotEq,.chk]],.ite [iF,.ret] [],Y0,.attr 26,Y1,.attr 26,.cmp .Eq,.chk,.ite [Y0,.attr 27,Y1,.attr 27,.cmp .Eq,.chk] [iF],.ret]
theorem zmo (a0 a1:V) (h:Run W d zhm [] [some a0,some a1] H (zan R)):zae W (d+1) (.ref 973) [a0,a1] H R:=by walk_at "d"
noncomputable def zho:List I:=[Y1,Y0,.sattr 3,Y2,Y0,.sattr 4,(iI 0),Y0,.sattr 28,Y1,(iI 1),.bin .Sub,Y0,.sattr 29,(iI 0),Y0,.sattr 22,Y2,(iI 1),.bin .Sub,Y0,.sattr 23]
theorem zmq (a0 a1 a2:V) (h:Run W d zho [] [some a0,some a1,some a2] H (zan R)):zae W (d+1) (.ref 994) [a0,a1,a2] H R:=by walk_at "d"
noncomputable def zew:List I:=[Y0,.attr 28,Y0,.attr 22,Y0,.attr 29,Y0,.attr 23,.tup 4,.ret]
theorem zhR (a0:V) (h:Run W d zew [] [some a0] H (zan R)):zae W (d+1) (.ref 1036) [a0] H R:=by walk_at "d"
noncomputable def zf7:List I:=[Y1,Y0,.sattr 4,.dct 0,Y0,.sattr 30,Y0,.mth 22,(iI 0),.call 2,.pop]
theorem zk5 (a0 a1:V) (h:Run W d zf7 [] [some a0,some a1] H (zan R)):zae W (d+1) (.ref 1127) [a0,a1] H R:=by walk_at "d"
noncomputable def zf8:List I:=[(iI 8),Y0,.attr 4,(iI 8),.fr .range 3 [.sto 2] [Y2,Y1,.cmp .GtE,.chk,.ite [iT,Y0,.attr 30,Y2,.sidx] []]]
theorem zk6 (a0 a1:V) (h:Run W d zf8 [] [some a0,some a1,none] H (zan R)):zae W (d+1) (.ref 1134) [a0,a1] H R:=by walk_at "d"
noncomputable def zf9:List I:=[.lit (.raw (.builtin "sorted")),Y0,.attr 30,.call 1,.ret]
theorem zk7 (a0:V) (h:Run W d zf9 [] [some a0] H (zan R)):zae W (d+1) (.ref 1169) [a0] H R:=by walk_at "d"
noncomputable def zga:List I:=[Y0,.attr 4,.sto 2,Y1,Y0,.sattr 4,Y0,.mth 23,.call 1,.fr .plain 1 [.sto 3] [Y3,Y1,.cmp .GtE,.chk,.ite [Y0,.attr 30,.mth 43,Y3,.call 2,.pop] []],Y1,Y2,.cmp .Gt,.chk,.ite [Y0,.mth 22,Y2,.call 2,.pop] []]
theorem zk8 (a0 a1:V) (h:Run W d zga [] [some a0,some a1,none,none] H (zan R)):zae W (d+1) (.ref 1198) [a0,a1] H R:=by walk_at "d"
noncomputable def zgb:List I:=[Y1,Y0,.sattr 3,Y2,Y0,.sattr 4,Y3,Y0,.sattr 31,Y4,Y0,.sattr 32,Y5,Y0,.sattr 33,.lit (.raw (.ref 396)),Y1,Y2,.call 2,Y0,.sattr 34,.lit (.raw (.ref 976)),.call 0,Y0,.sattr 35,.lit (.raw (.ref 1109)),Y1,Y2,.call 2,Y0,.sattr 36,.lit (.raw (.ref 1208)),Y2,.call 1,Y0,.sattr 37,.lit (.raw (.ref 920)),.call 0,Y0,.sattr 38,.lit (.none),Y0,.sattr 39,.lst 0,Y0,.sattr 40,iF,Y0,.sattr 41]
theorem zk9 (a0 a1 a2 a3 a4 a5:V) (h:Run W d zgb [] [some a0,some a1,some a2,some a3,some a4,some a5] H (zan R)):zae W (d+1) (.ref 1228) [a0,a1,a2,a3,a4,a5] H R:=zcC (zkw _) (by kernel_rfl) (by kernel_rfl) (by kernel_rfl) h
noncomputable def zgc:List I:=[Y0,.attr 34,.mth 3,Y0,.attr 35,.attr 11,.call 2,.ret]
theorem zla (a0:V) (h:Run W d zgc [] [some a0] H (zan R)):zae W (d+1) (.ref 1235) [a0] H R:=by walk_at "d"
noncomputable def zex:List I:=[Y0,.attr 34,.mth 3,Y1,.call 2,.attr 2,.lit (.tup [.str (S "wide"),.str (S "top"),.str (S "bottom")]),.cmp .In,.chk,.ite [Y0,.attr 4,(iI 2),.bin .FloorDiv] [Y0,.attr 4],.ret]
theorem zhS (a0 a1:V) (h:Run W d zex [] [some a0,some a1] H (zan R)):zae W (d+1) (.ref 1242) [a0,a1] H R:=by walk_at "d"
noncomputable def zgd:List I:=[.lit (.raw (.builtin "max")),(iI 0),Y0,.mth 25,Y0,.attr 35,.attr 11,.call 2,(iI 1),.bin .Sub,.call 2,.sto 1,Y0,.attr 35,.attr 12,Y0,.attr 36,.attr 23,.cmp .LtE,.chk,.ite [.lit (.raw (.builtin "min")),Y1,Y0,.attr 36,.attr 23,.call 2] [Y1],.ret]
theorem zlb (a0:V) (h:Run W d zgd [] [some a0,none] H (zan R)):zae W (d+1) (.ref 1249) [a0] H R:=by walk_at "d"
noncomputable def zge:List I:=[Y0,.attr 35,.attr 12,Y0,.attr 36,.attr 22,.cmp .GtE,.chk,.ite [Y0,.attr 36,.attr 22] [(iI 0)],.ret]
theorem zlc (a0:V) (h:Run W d zge [] [some a0] H (zan R)):zae W (d+1) (.ref 1256) [a0] H R:=by walk_at "d"
noncomputable def zgf:List I:=[Y0,.attr 36,.attr 22,Y0,.attr 35,.attr 12,.cmpk .LtE,.ite [Y0,.attr 36,.attr 23,.cmp .LtE] [.pop,iF],.ret]
theorem zld (a0:V) (h:Run W d zgf [] [some a0] H (zan R)):zae W (d+1) (.ref 1263) [a0] H R:=by walk_at "d"
noncomputable def zgg:List I:=[Y0,.attr 36,.mth 21,.call 1,(iI 0),(iI 0),Y0,.attr 3,(iI 1),.bin .Sub,Y0,.attr 4,(iI 1),.bin .Sub,.tup 4,.cmp .Eq,.ret]
theorem zle (a0:V) (h:Run W d zgg [] [some a0] H (zan R)):zae W (d+1) (.ref 1270) [a0] H R:=by walk_at "d"
noncomputable def zgh:List I:=[.lit (.raw (.ref 62)),Y1,(iI 0),Y0,.attr 3,(iI 1),.bin .Sub,.call 3,Y0,.attr 35,.sattr 11,.lit (.raw (.ref 62)),Y2,(iI 0),.lit (.raw (.builtin "max")),(iI 0),Y0,.mth 25,Y0,.attr 35,.attr 11,.call 2,(iI 1),.bin .Sub,.call 2,.call 3,Y0,.attr 35,.sattr 12,iF,Y0,.attr 35,.sattr 13]
theorem zlf (a0 a1 a2:V) (h:Run W d zgh [] [some a0,some a1,some a2] H (zan R)):zae W (d+1) (.ref 1277) [a0,a1,a2] H R:=by walk_at "d"
noncomputable def zgi:List I:=[Y0,.attr 38,.mth 19,Y1,Y0,.attr 41,.call 3,.sto 2,Y0,.attr 32,.mth 15,Y2,.call 2,.sto 3,Y3,(iI 0),.cmp .Eq,.chk,.ite [Y0,.mth 32,Y2,.call 2,.pop] [Y0,.attr 31,.mth 16,.lit (.str (S "clusters")),.call 2,.chk,.ite [.bad,.chk,.ite [Y0,.mth 32,Y2,.call 2,.chk] [iF]] [iF],.notb,.ite [Y0,.mth 34,Y2,.tup 1,Y3,.call 3,.pop] []]]
theorem zlg (a0 a1:V) (h:Run W d zgi [] [some a0,some a1,none,none] H (zan R)):zae W (d+1) (.ref 1284) [a0,a1] H R:=by walk_at "d"
noncomputable def zey:List I:=[Y0,.attr 35,.attr 13,.chk,.ite [Y0,.attr 35,.attr 12] [Y0,.attr 35,.attr 12,(iI 1),.bin .Sub],.sto 1,Y1,(iI 0),.cmp .Lt,.chk,.ite [.lit (.none),.ret] [],Y0,.mth 3,.call 1,.attr 0,Y1,.idx,.sto 2,Y2,(iI 1),.idx,(iI 0),.cmp .Eq,.chk,.ite [Y1,(iI 1),.bin .Sub,.sto 1,Y1,(iI 0),.cmp .GtE,.chk,.ite [Y0,.mth 3,.call 1,.attr 0,Y1,.idx] [Y2],.sto 2] [],Y1,(iI 0),.cmp .GtE,.chk,.ite [Y2,(iI 0),.idx,.tup 0,.cmp .NotEq,.chk] [iF],.ite [Y1] [.lit (.none)],.ret]
theorem zhT (a0:V) (h:Run W d zey [] [some a0,none,none] H (zan R)):zae W (d+1) (.ref 1291) [a0] H R:=by walk_at "d"
noncomputable def zgj:List I:=[Y0,.mth 31,.call 1,.sto 2,Y2,.lit (.none),.cmp .Is,.chk,.ite [iF,.ret] [],Y0,.mth 3,.call 1,.attr 0,Y2,.idx,.unp 4,.sto 3,.sto 4,.sto 5,.sto 6,Y3,Y1,.tup 1,.bin .Add,.sto 3,Y0,.attr 31,.mth 16,.lit (.str (S "clusters")),.call 2,.chk,.ite [.bad,Y3,Y0,.attr 32,.call 2] [Y4],.sto 7,Y7,(iI 2),.cmp .Eq,.chk,.ite [Y4,(iI 1),.cmp .Eq,.chk,.ite [Y2,Y0,.mth 26,.call 1,.cmp .Lt,.chk,.ite [Y0,.attr 35,.attr 13,.chk,.notb] [iF]] [iF]] [iF],.ite [Y0,.mth 3,.call 1,.mth 1,Y2,Y3,(iI 2),Y5,Y6,.tup 4,.call 3,.pop,Y0,.mth 35,Y2,(iI 2),.call 3,.pop] [Y0,.mth 3,.call 1,.mth 1,Y2,Y3,Y4,Y5,Y6,.tup 4,.call 3,.pop],.lit (.raw (.type "list")),Y3,.call 1,Y0,.sattr 40,iT,.ret]
theorem zlh (a0 a1:V) (h:Run W d zgj [] [some a0,some a1,none,none,none,none,none,none] H (zan R)):zae W (d+1) (.ref 1305) [a0,a1] H R:=by walk_at "d"
noncomputable def zgk:List I:=[Y0,.attr 35,.attr 12,Y0,.attr 36,.attr 23,.cmp .LtE,.chk,.ite [Y0,.attr 36,.attr 23] [Y0,.attr 4,(iI 1),.bin .Sub],.sto 1,Y1,Y0,.mth 27,.call 1,.bin .Sub,(iI 1),.cmp .Lt,.ret]
theorem zli (a0:V) (h:Run W d zgk [] [some a0,none] H (zan R)):zae W (d+1) (.ref 1312) [a0] H R:=by walk_at "d"
noncomputable def zgl:List I:=[Y2,(iI 2),.cmp .Eq,.chk,.ite [Y0,.mth 33,.call 1,.chk] [iF],.ite [.lit (.none),.ret] [],Y0,.attr 35,.attr 13,.chk,.ite [Y0,.attr 31,.mth 16,.lit (.str (S "autowrap")),.call 2,.chk] [iF],.ite [Y0,.mth 36,.call 1,.pop] [],Y0,.mth 26,.call 1,.sto 3,Y2,(iI 2),.cmp .Eq,.chk,.ite [Y0,.attr 35,.attr 12,Y3,.cmp .GtE,.chk] [iF],.ite [Y3,Y0,.mth 27,.call 1,.bin .Sub,(iI 1),.cmp .Lt,.chk,.ite [.lit (.none),.ret] [],Y0,.attr 35,.attr 12,.sto 4,Y0,.attr 31,.mth 16,.lit (.str (S "autowrap")),.call 2,.chk,.ite [Y0,.mth 36,.call 1,.pop] [Y3,(iI 1),.bin .Sub,Y0,.attr 35,.sattr 12],Y0,.mth 26,.call 1,.sto 3,Y0,.attr 35,.attr 12,Y3,.cmp .GtE,.chk,.ite [Y0,.attr 31,.mth 16,.lit (.str (S "autowrap")),.call 2,.chk,.notb,.ite [Y4,Y0,.attr 35,.sattr 12] [],.lit (.none),.ret] []] [],Y0,.attr 35,.attr 12,.sto 4,Y0,.attr 31,.mth 16,.lit (.str (S "insert")),.call 2,.chk,.ite [.bad,.pop,Y3,Y0,.mth 25,Y0,.attr 35,.attr 11,.call 2,(iI 1),.bin .Sub,.cmp .Eq,.chk,.ite [iF,Y0,.mth 3,.call 1,.sattr 1] []] [],Y0,.mth 3,.call 1,.mth 1,Y4,Y1,Y2,Y0,.attr 35,.attr 25,Y0,.attr 35,.attr 27,.tup 4,.call 3,.pop,Y0,.mth 35,Y4,Y2,.call 3,.pop,.lit (.raw (.type "list")),Y1,.call 1,Y0,.sattr 40]
theorem zlj (a0 a1 a2:V) (h:Run W d zgl [] [some a0,some a1,some a2,none,none] H (zan R)):zae W (d+1) (.ref 1319) [a0,a1,a2] H R:=by walk_at "d"
noncomputable def zgm:List I:=[Y0,.mth 26,.call 1,.sto 3,Y1,Y2,.bin .Add,Y3,.cmp .Gt,.chk,.ite [Y3,Y0,.attr 35,.sattr 12,iT,Y0,.attr 35,.sattr 13] [Y1,Y2,.bin .Add,Y0,.attr 35,.sattr 12,iF,Y0,.attr 35,.sattr 13]]
theorem zlk (a0 a1 a2:V) (h:Run W d zgm [] [some a0,some a1,some a2,none] H (zan R)):zae W (d+1) (.ref 1326) [a0,a1,a2] H R:=by walk_at "d"
noncomputable def zgn:List I:=[Y0,.mth 3,.call 1,.sto 1,Y0,.attr 35,.attr 11,.sto 2,Y0,.mth 27,.call 1,.sto 3,Y0,.mth 37,.call 1,.pop,Y3,Y0,.attr 35,.sattr 12,Y0,.mth 38,.call 1,.pop,Y0,.attr 36,.attr 22,(iI 0),.cmp .Eq,.chk,.ite [Y0,.attr 36,.attr 23,Y0,.attr 4,(iI 1),.bin .Sub,.cmp .Eq,.chk] [iF],.sto 4,Y4,.chk,.ite [Y0,.attr 35,.attr 11,Y2,.cmp .NotEq,.chk,.ite [iT] [Y2,Y0,.attr 36,.attr 29,.cmp .Eq,.chk]] [iF],.ite [iT,Y1,.sattr 1] []]
theorem zll (a0:V) (h:Run W d zgn [] [some a0,none,none,none,none] H (zan R)):zae W (d+1) (.ref 1333) [a0] H R:=by walk_at "d"
noncomputable def zgo:List I:=[Y0,.attr 34,.mth 7,Y0,.attr 36,.mth 21,.call 1,Y1,Y0,.attr 35,.attr 25,.call 4,.sto 2,Y0,.attr 33,.lit (.none),.cmp .IsNot,.chk,.ite [Y0,.mth 29,.call 1,.chk] [iF],.ite [Y2,.fr .plain 1 [.sto 3] [Y0,.attr 33,.mth 8,Y3,.call 2,.pop]] []]
theorem zlm (a0 a1:V) (h:Run W d zgo [] [some a0,some a1,none,none] H (zan R)):zae W (d+1) (.ref 1347) [a0,a1] H R:=by walk_at "d"
noncomputable def zgp:List I:=[iF,Y0,.attr 35,.sattr 13,Y0,.attr 35,.attr 11,Y0,.attr 36,.attr 29,.cmp .Eq,.chk,.ite [Y0,.mth 28,.call 1,.chk,.ite [Y0,.mth 7,(iI 1),.call 2,.pop] []] [Y0,.attr 35,.attr 11,Y0,.attr 3,(iI 1),.bin .Sub,.cmp .Lt,.chk,.ite [Y0,.attr 35,.attr 11,(iI 1),.bin .Add,Y0,.attr 35,.sattr 11] []],Y0,.mth 38,.call 1,.pop]
theorem zln (a0:V) (h:Run W d zgp [] [some a0] H (zan R)):zae W (d+1) (.ref 1361) [a0] H R:=by walk_at "d"
noncomputable def zgq:List I:=[.lit (.raw (.builtin "min")),Y0,.attr 35,.attr 12,.lit (.raw (.builtin "max")),(iI 0),Y0,.mth 25,Y0,.attr 35,.attr 11,.call 2,(iI 1),.bin .Sub,.call 2,.call 2,Y0,.attr 35,.sattr 12]
theorem zlo (a0:V) (h:Run W d zgq [] [some a0] H (zan R)):zae W (d+1) (.ref 1375) [a0] H R:=by walk_at "d"
noncomputable def zgr:List I:=[Y0,.attr 35,.attr 26,.chk,.ite [Y0,.attr 36,.attr 22] [Y0,.mth 27,.call 1],Y0,.attr 35,.sattr 12,iF,Y0,.attr 35,.sattr 13,Y0,.mth 38,.call 1,.pop]
theorem zlp (a0:V) (h:Run W d zgr [] [some a0] H (zan R)):zae W (d+1) (.ref 1382) [a0] H R:=by walk_at "d"
noncomputable def zgs:List I:=[Y0,.mth 37,.call 1,.pop,Y0,.mth 39,.call 1,.pop]
theorem zlq (a0:V) (h:Run W d zgs [] [some a0] H (zan R)):zae W (d+1) (.ref 1389) [a0] H R:=by walk_at "d"
noncomputable def zgu:List I:=[Y1,Y0,.sattr 3,Y2,Y0,.sattr 4,Y3,Y0,.sattr 34,.lit (.raw (.ref 1109)),Y1,Y2,.call 2,Y0,.sattr 36,Y0,.attr 37,.mth 24,Y2,.call 2,.pop,Y4,.unp 3,.sto 5,.sto 6,.sto 7,Y0,.mth 20,Y5,Y6,.call 3,.pop,Y7,.chk,.ite [Y0,.attr 35,.attr 12,Y6,.cmp .Eq,.chk,.ite [Y6,Y0,.mth 26,.call 1,.cmp .Eq,.chk] [iF]] [iF],Y0,.attr 35,.sattr 13]
theorem zls (a0 a1 a2 a3 a4:V) (h:Run W d zgu [] [some a0,some a1,some a2,some a3,some a4,none,none,none] H (zan R)):zae W (d+1) (.ref 1496) [a0,a1,a2,a3,a4] H R:=by walk_at "d"
noncomputable def zgv:List I:=[Y0,.lit (.str (S "place")),.idx,.sto 2,Y2,(iI 1),.bin .Add,Y0,.lit (.str (S "place")),.sidx,Y2,.lit (.raw (.builtin "len")),Y0,.lit (.str (S "cells")),.idx,.call 1,.cmp .Lt,.chk,.ite [Y0,.lit (.str (S "cells")),.idx,Y2,.idx] [Y2,(iI 5),.bin .Mult,Y2,(iI 3),.bin .FloorDiv,.bin .Add],Y1,.bin .Mod,.ret]
theorem zlt (a0 a1:V) (h:Run W d zgv [] [some a0,some a1,none] H (zan R)):zae W (d+1) (.ref 1510) [a0,a1] H R:=by walk_at "d"
noncomputable def zgw:List I:=[.lit (.raw (.ref 1485)),Y0,Y1,.lit (.raw (.ref 792)),.call 0,.lit (.raw (.ref 716)),(iI 19968),(iI 20223),.tup 2,.lst 1,(iI 768),(iI 879),.tup 2,.lst 1,.lst 0,.call 3,.lit (.raw (.ref 478)),(iI 400),.call 1,.call 5,.ret]
theorem zlu (a0 a1:V) (h:Run W d zgw [] [some a0,some a1] H (zan R)):zae W (d+1) (.ref 1517) [a0,a1] H R:=by walk_at "d"
noncomputable def zgx:List I:=[Y2,Y0,.attr 35,.sattr 25,Y1,(iI 0),.cmp .Eq,.chk,.ite [Y0,.mth 40,.call 1,.pop] [Y0,.mth 30,Y1,.call 2,.pop]]
theorem zlv (a0 a1 a2:V) (h:Run W d zgx [] [some a0,some a1,some a2] H (zan R)):zae W (d+1) (.ref 1524) [a0,a1,a2] H R:=by walk_at "d"
noncomputable def zgy:List I:=[(iI 1),.lit (.raw (.ref 1510)),Y0,(iI 7),.call 2,.bin .Add,.fr .range 1 [.sto 3] [.lit (.raw (.ref 1510)),Y0,(iI 24),.call 2,.sto 4,Y4,(iI 8),.bin .Mod,.lit (.tup [.tup [.int (0),.int (-1),.int (-1),.int (-1),.int 0],.tup [.int (1),.int 3,.int (-1),.int (-1),.int 0],.tup [.int (4),.int (-1),.int (-1),.int 5,.int 0]]),Y4,(iI 8),.bin .FloorDiv,.idx,.tup 2,.unp 2,.sto 5,.sto 6,Y5,(iI 4),.cmp .Lt,.chk,.ite [(iI 97),.lit (.raw (.builtin "len")),Y2,.call 1,(iI 26),.bin .Mod,.bin .Add,.sto 7] [Y5,(iI 6),.cmp .Lt,.chk,.ite [(iI 19968),.lit (.raw (.builtin "len")),Y2,.call 1,(iI 26),.bin .Mod,.bin .Add,.sto 7] [Y5,(iI 6),.cmp .Eq,.chk,.ite [(iI 769)] [(iI 0)],.sto 7]],.lit (.raw (.ref 1524)),Y1,Y7,Y6,.call 3,.pop,Y2,.mth 41,Y7,Y6,.tup 2,.call 2,.pop]]
theorem zlw (a0 a1 a2:V) (h:Run W d zgy [] [some a0,some a1,some a2,none,none,none,none,none] H (zan R)):zae W (d+1) (.ref 1531) [a0,a1,a2] H R:=by walk_at "d"
noncomputable def zgz:List I:=[.lst 0,.lst 1,.sto 1,Y0,.fr .plain 1 [.unp 2,.sto 2,.sto 3] [Y2,(iI 0),.cmp .Eq,.chk,.ite [Y1,.mth 41,.lst 0,.call 2,.pop] [Y2,(iI 769),.cmp .NotEq,.chk,.ite [Y1,(iI 1),.neg,.idx,.mth 41,Y2,.tup 1,Y2,(iI 19968),.cmp .GtE,.chk,.ite [(iI 2)] [(iI 1)],Y3,.tup 3,.call 2,.pop] [Y1,(iI 1),.neg,.idx,.lst 0,.cmp .NotEq,.chk,.ite [Y1,(iI 1),.neg,.idx,.mth 43,.call 1,.unp 3,.sto 4,.sto 5,.sto 6,Y1,(iI 1),.neg,.idx,.mth 41,Y4,Y2,.tup 1,.bin .Add,Y5,Y6,.tup 3,.call 2,.pop] []]]],Y1,.ret]
theorem zlx (a0:V) (h:Run W d zgz [] [some a0,none,none,none,none,none,none] H (zan R)):zae W (d+1) (.ref 1538) [a0] H R:=by walk_at "d"
noncomputable def zgA:List I:=[.lst 0,.sto 2,Y0,.fr .plain 1 [.sto 3] [Y2,.mth 41,.lst 0,iF,.lit (.str (S "single")),.lst 3,.call 2,.pop,Y3,.fr .plain 1 [.unp 3,.sto 4,.sto 5,.sto 6] [.lit (.raw (.builtin "len")),Y2,(iI 1),.neg,.idx,(iI 0),.idx,.call 1,Y5,.bin .Add,Y1,.cmp .Gt,.chk,.ite [iT,Y2,(iI 1),.neg,.idx,(iI 1),.sidx,Y2,.mth 41,.lst 0,iF,.lit (.str (S "single")),.lst 3,.call 2,.pop] [],Y2,(iI 1),.neg,.idx,(iI 0),.idx,.mth 42,Y4,Y5,Y6,iF,.tup 4,.tup 0,(iI 0),Y6,iF,.tup 4,.lst 2,.lit (.none),Y5,.slc,.call 2,.pop]],.lit (.raw (.builtin "len")),Y2,(iI 1),.neg,.idx,(iI 0),.idx,.call 1,.sto 7,Y2,.fr .plain 1 [.sto 8] [Y8,(iI 0),.idx,.mth 42,.lit (.tup [.tup [],.int 1,.tup [.int (0),.int (-1),.int (-1),.int (-1),.int 0],.bool false]),.lst 1,Y1,.lit (.raw (.builtin "len")),Y8,(iI 0),.idx,.call 1,.bin .Sub,.bin .Mult,.call 2,.pop],Y2,Y7,.tup 2,.ret]
theorem zly (a0 a1:V) (h:Run W d zgA [] [some a0,some a1,none,none,none,none,none,none,none] H (zan R)):zae W (d+1) (.ref 1545) [a0,a1] H R:=by walk_at "d"
noncomputable def zgB:List I:=[.has [none],Y0,.lc .plain 1 [none] [.sto 0] [.lit (.raw (.type "list")),Y0,.attr 0,.call 1,Y0,.attr 1,Y0,.attr 2,.lst 3],.ret]
theorem zlz (a0:V) (h:Run W d zgB [] [some a0] H (zan R)):zae W (d+1) (.ref 1550) [a0] H R:=by walk_at "d"
noncomputable def zez:List I:=[.lit (.raw (.ref 1545)),.lit (.raw (.ref 1538)),Y1,.call 1,Y3,.call 2,.unp 2,.sto 4,.sto 5,.lit (.raw (.builtin "max")),(iI 0),.lit (.raw (.builtin "len")),Y4,.call 1,Y2,.bin .Sub,.call 2,.sto 6,Y4,Y6,.lit (.none),.slc,.has [none,some 3],Y2,.lit (.raw (.builtin "len")),Y4,.call 1,.bin .Sub,.lc .range 1 [none,some 3] [.sto 0] [.lit (.tup [.tup [],.int 1,.tup [.int (0),.int (-1),.int (-1),.int (-1),.int 0],.bool false]),.lst 1,Y1,.bin .Mult,iF,.lit (.str (S "single")),.lst 3],.bin .Add,.sto 7,Y0,.attr 3,Y0,.attr 4,Y0,.attr 34,.attr 3,Y0,.attr 34,.attr 4,.tup 4,Y2,Y3,Y2,Y3,.tup 4,.cmp .NotEq,.chk,.ite [iF,.ret] [],.lit (.raw (.ref 1550)),Y0,.attr 33,.attr 5,.call 1,Y4,.lit (.none),Y6,.slc,.cmp .NotEq,.chk,.ite [iT] [Y0,.attr 33,.attr 7,(iI 0),.cmp .NotEq,.chk],.ite [iF,.ret] [],.lit (.raw (.ref 1550)),Y0,.attr 34,.attr 5,.call 1,Y7,.cmp .NotEq,.chk,.ite [iF,.ret] [],Y0,.attr 35,.sto 8,Y8,.attr 11,Y8,.attr 12,Y8,.attr 13,.tup 3,.sto 9,Y9,.lit (.raw (.builtin "len")),Y4,.call 1,(iI 1),.bin .Sub,Y6,.bin .Sub,.lit (.raw (.builtin "min")),Y5,Y3,(iI 1),.bin .Sub,.call 2,Y5,Y3,.cmp .Eq,.tup 3,.cmp .Eq,.ret]
theorem zlA (a0 a1 a2 a3:V) (h:Run W d zez [] [some a0,some a1,some a2,some a3,none,none,none,none,none,none] H (zan R)):zae W (d+1) (.ref 1555) [a0,a1,a2,a3] H R:=zde (zkx _) rfl (by kernel_rfl) (by rw [show zbx 98 1000=zez by kernel_rfl,show ro0 98 1000 (zaA (dg 98 1000)) ([a0,a1,a2,a3]++[])=[some a0,some a1,some a2,some a3,none,none,none,none,none,none] by kernel_rfl]; exact h)
noncomputable def zgC:List I:=[.lit (.str (S "cells")),.has [none],Y0,.lit (.none),(iI 63),.slc,.lc .plain 1 [none] [.sto 0] [.lit (.raw (.type "int")),Y0,.call 1,(iI 1000000000),.bin .Mod],.lit (.str (S "place")),(iI 0),.dct 4,.sto 1,(iI 1),.lit (.raw (.ref 1510)),Y1,(iI 4),.call 2,.bin .Add,(iI 2),.lit (.raw (.ref 1510)),Y1,(iI 6),.call 2,.bin .Add,.tup 2,.unp 2,.sto 2,.sto 3,.lit (.raw (.ref 1517)),Y2,Y3,.call 2,.lst 0,.tup 2,.unp 2,.sto 4,.sto 5,(iI 1),.lit (.raw (.ref 1510)),Y1,(iI 3),.call 2,.bin .Add,.fr .range 1 [.sto 6] [.lit (.raw (.ref 1531)),Y1,Y4,Y5,.call 3,.pop,.lit (.raw (.ref 1555)),Y4,Y5,Y2,Y3,.call 4,.chk,.notb,.ite [iF,.ret] [],(iI 1),.lit (.raw (.ref 1510)),Y1,(iI 4),.call 2,.bin .Add,(iI 2),.lit (.raw (.ref 1510)),Y1,(iI 6),.call 2,.bin .Add,.tup 2,.unp 2,.sto 2,.sto 3,.lit (.raw (.ref 662)),Y4,Y2,Y3,.call 3,.unp 3,.sto 7,.sto 8,.sto 9,Y8,Y4,.sattr 33,.lit (.raw (.ref 1496)),Y4,Y2,Y3,Y7,Y9,.call 5,.pop,.lit (.raw (.ref 1555)),Y4,Y5,Y2,Y3,.call 4,.chk,.notb,.ite [iF,.ret] []],.lit (.raw (.ref 1531)),Y1,Y4,Y5,.call 3,.pop,.lit (.raw (.ref 1517)),Y2,Y3,.call 2,.sto 10,Y5,.fr .plain 1 [.unp 2,.sto 11,.sto 12] [.lit (.raw (.ref 1524)),Y10,Y11,Y12,.call 3,.pop],Y4,.attr 34,.mth 2,Y10,.attr 34,.call 2,.chk,.notb,.ite [iT] [Y4,.attr 33,.mth 2,Y10,.attr 33,.call 2,.chk,.notb],.ite [iF,.ret] [],Y4,.attr 35,.mth 2,Y10,.attr 35,.call 2,.chk,.ite [.lit (.raw (.ref 1555)),Y4,Y5,Y2,Y3,.call 4,.chk] [iF],.ret]
theorem zlB (a0:V) (h:Run W d zgC [] [some a0,none,none,none,none,none,none,none,none,none,none,none,none] H (zan R)):zae W (d+1) (.ref 1560) [a0] H R:=by walk_at "d"
end
noncomputable def is (v:V) (H:Hp):V→Hp→Prop:=fun x H'=>x=v∧H'=H
noncomputable def Ext (H H':Hp):Prop:=∀ a m,H a=some m→H' a=some m
theorem Ext.rfl {H:Hp}:Ext H H:=fun _ _ h=>h
theorem Ext.trans {H H' H'':Hp} (h:Ext H H') (h':Ext H' H''):Ext H H'':=fun a m x=>h' a m (h a m x)
theorem Ext.new {H:Hp} {a:Addr} {m:MO} (h:H a=none):Ext H (zab H a m):=fun b x e=>by
 rw [zao]; · exact e
 intro q; rw [q,h] at e; injection e
theorem Ext.upd {H H':Hp} {a:Addr} {m:MO} (x:Ext H H') (h:H a=none):Ext H (zab H' a m):=fun b y e=>by
 rw [zao]; · exact x _ _ e
 intro q; rw [q,h] at e; injection e
theorem zal {H:Hp} {a b:Addr} {m:MO} (h:H a=some m) (h':H b=none):a≠b:=fun q=>by rw [q,h'] at h; injection h
theorem zmY {H:Hp} {a b:Addr} {m m':MO} (h:H a=some m) (h':H b=some m') (q:m≠m'):a≠b:=fun z=>by rw [z,h'] at h; (injection h with h; subst h); exact q rfl
noncomputable def MO.kd:MO→Nat | .list _=>0 | .dict _=>1 | .dictB _=>2 | .inst C _=>C+3
theorem zam {H:Hp} {a b:Addr} {m m':MO} (h:H a=some m) (h':H b=some m') (q:(m.kd == m'.kd)=false):a≠b:=zmY h h' fun z=>by rw [z] at q; simp at q
theorem zak {H:Hp} {a b:Addr} {m m':MO} (h:H a=some m) (q:a≠b):zab H b m' a=some m:=(zao q).trans h
noncomputable def mLk:List (Nat × Nat × Nat)→Nat→Nat→Option Nat
 | [],_,_=>none
 | (C',m',f)::r,C,m=>if (Nat.beq C' C && Nat.beq m' m)=true then some f else mLk r C m
noncomputable def zif (C m:Nat):Option Nat:=mLk zd4 C m
theorem zie {C m f:Nat}:∀ {l:List (Nat × Nat × Nat)},mLk l C m=some f→(C,m,f) ∈ l
 | [],h=>by injection h
 | (C',m',f')::r,h=>by
  unfold mLk at h
  split at h
  ·rename_i q
   simp only [Bool.and_eq_true] at q
   (injection h with h; subst h)
   rw [Nat.eq_of_beq_eq_true q.1,Nat.eq_of_beq_eq_true q.2]; exact .head _
  ·exact .tail _ (zie h)
theorem zmG {C m f:Nat} (h:zif C m=some f):(C,m,f) ∈ zd4:=zie h
section
variable {W:Wx} {d:Nat} {H:Hp} {k:List I} {st:List V} {ρ:Ro} {Q:Out→Prop}
theorem znX {a C f:Nat} {fs:List (Nat × V)} {x:V} (e:H a=some (.inst C fs)) (hx:zcu f fs=some x) (hh:x.hand=true) (h:Run W d k (x::st) ρ H Q):Run W d (.attr f::k) (.ref a::st) ρ H Q:=
 Run.attr (zm9 e hx hh (R:=is x H) ⟨rfl,rfl⟩) (by rintro _ _ ⟨rfl,rfl⟩; exact h)
theorem zaq {a C f:Nat} {fs:List (Nat × V)} {v:V} (e:H a=some (.inst C fs)) (hf:okF C f=true) (hl:Nat.ble fs.length 100=true) (h:Run W d k st ρ (zab H a (.inst C (zaF f v fs))) Q):Run W d (.sattr f::k) (.ref a::v::st) ρ H Q:=
 Run.sattr (zkH e hf (Nat.le_of_ble_eq_true hl) (R:=fun H'=>H'=_) rfl) (by rintro _ rfl; exact h)
theorem zog {a C m f:Nat} {fs:List (Nat × V)} (e:H a=some (.inst C fs)) (hm:zif C m=some f) (h:Run W d k (.ref a::.raw (.ref f)::st) ρ H Q):Run W d (.mth m::k) (.ref a::st) ρ H Q:=
 Run.mth (zmL (zmG hm) e) h
theorem zbl {a:Nat} {l:List V} (e:H a=some (.list l)) (h:Run W d k (.ref a::.raw (.builtin "list.append")::st) ρ H Q):Run W d (.mth 41::k) (.ref a::st) ρ H Q:=
 Run.mth (zfh e PySem.F.slot_list_append PySem.F.type_list_append) h
theorem zeh {a:Nat} {l:List V} (e:H a=some (.list l)) (h:Run W d k (.ref a::.raw (.builtin "list.extend")::st) ρ H Q):Run W d (.mth 42::k) (.ref a::st) ρ H Q:=
 Run.mth (zfh e PySem.F.slot_list_extend PySem.F.type_list_extend) h
theorem ziM {a:Nat} {l:List V} (e:H a=some (.list l)) (h:Run W d k (.ref a::.raw (.builtin "list.pop")::st) ρ H Q):Run W d (.mth 43::k) (.ref a::st) ρ H Q:=
 Run.mth (zfh e PySem.F.slot_list_pop PySem.F.type_list_pop) h
theorem ziL {a:Nat} {l:List (Str × V)} (e:H a=some (.dict l)) (h:Run W d k (.ref a::.raw (.builtin "dict.get")::st) ρ H Q):Run W d (.mth 44::k) (.ref a::st) ρ H Q:=
 Run.mth (zmK e PySem.F.slot_dict_get PySem.F.type_dict_get) h
theorem zfs {f:Value} {R:V→Hp→Prop} (c:zaI W d f [] H R) (ok:zb2 f=true) (h:∀ x H',R x H'→Run W d k (x::st) ρ H' Q):Run W d (.call 0::k) (.raw f::st) ρ H Q:=
 Run.call (l:=[]) rfl rfl ok c h
theorem zav {f:Value} {a:V} {R:V→Hp→Prop} (c:zaI W d f [a] H R) (ok:zb2 f=true) (h:∀ x H',R x H'→Run W d k (x::st) ρ H' Q):Run W d (.call 1::k) (a::.raw f::st) ρ H Q:=
 Run.call (l:=[a]) rfl rfl ok c h
theorem zas {f:Value} {a b:V} {R:V→Hp→Prop} (c:zaI W d f [a,b] H R) (ok:zb2 f=true) (h:∀ x H',R x H'→Run W d k (x::st) ρ H' Q):Run W d (.call 2::k) (b::a::.raw f::st) ρ H Q:=
 Run.call (l:=[a,b]) rfl rfl ok c h
theorem za0 {f:Value} {a b c':V} {R:V→Hp→Prop} (c:zaI W d f [a,b,c'] H R) (ok:zb2 f=true) (h:∀ x H',R x H'→Run W d k (x::st) ρ H' Q):Run W d (.call 3::k) (c'::b::a::.raw f::st) ρ H Q:=
 Run.call (l:=[a,b,c']) rfl rfl ok c h
theorem zec {f:Value} {a b c' e:V} {R:V→Hp→Prop} (c:zaI W d f [a,b,c',e] H R) (ok:zb2 f=true) (h:∀ x H',R x H'→Run W d k (x::st) ρ H' Q):Run W d (.call 4::k) (e::c'::b::a::.raw f::st) ρ H Q:=
 Run.call (l:=[a,b,c',e]) rfl rfl ok c h
theorem zft {f:Value} {a b c' e g:V} {R:V→Hp→Prop} (c:zaI W d f [a,b,c',e,g] H R) (ok:zb2 f=true) (h:∀ x H',R x H'→Run W d k (x::st) ρ H' Q):Run W d (.call 5::k) (g::e::c'::b::a::.raw f::st) ρ H Q:=
 Run.call (l:=[a,b,c',e,g]) rfl rfl ok c h
theorem zae.tu {d':Nat} {f:Value} {args:List V} {R:V→Hp→Prop} (h:zae W d f args H R) (le:Nat.ble d d'=true):zaI W d' f args H R:=(h.up (Nat.le_of_ble_eq_true le)).t
theorem zcK {a:Addr} {l:List V} (e:H a=some (.list l)) (hl:l.length≤1000000) (h:Run W d k (.int l.length::st) ρ H Q):Run W d (.call 1::k) (.ref a::.raw (.builtin "len")::st) ρ H Q:=
 zav (zkl e hl (R:=is _ H) ⟨rfl,rfl⟩) rfl (by rintro _ _ ⟨rfl,rfl⟩; exact h)
theorem zoe {a b:Int} (h:Run W d k (.int (max a b)::st) ρ H Q):Run W d (.call 2::k) (.int b::.int a::.raw (.builtin "max")::st) ρ H Q:=
 zas (zko (R:=is _ H) ⟨rfl,rfl⟩) rfl (by rintro _ _ ⟨rfl,rfl⟩; exact h)
theorem zof {a b:Int} (h:Run W d k (.int (min a b)::st) ρ H Q):Run W d (.call 2::k) (.int b::.int a::.raw (.builtin "min")::st) ρ H Q:=
 zas (zkp (R:=is _ H) ⟨rfl,rfl⟩) rfl (by rintro _ _ ⟨rfl,rfl⟩; exact h)
theorem zbe {a:Addr} {l:List V} {x:V} (e:H a=some (.list l)) (hl:l.length≤1000000) (h:Run W d k (.none::st) ρ (zab H a (.list (l++[x]))) Q):Run W d (.call 2::k) (x::.ref a::.raw (.builtin "list.append")::st) ρ H Q:=
 zas (zkg e hl (R:=is _ _) ⟨rfl,rfl⟩) rfl (by rintro _ _ ⟨rfl,rfl⟩; exact h)
theorem zee {a b:Addr} {l l':List V} (e:H a=some (.list l)) (e':H b=some (.list l')) (hl:l.length+l'.length≤1000000) (h:Run W d k (.none::st) ρ (zab H a (.list (l++l'))) Q):Run W d (.call 2::k) (.ref b::.ref a::.raw (.builtin "list.extend")::st) ρ H Q:=
 zas (zkj e e' hl (R:=is _ _) ⟨rfl,rfl⟩) rfl (by rintro _ _ ⟨rfl,rfl⟩; exact h)
theorem ziP {a:Addr} {l:List V} {x:V} (e:H a=some (.list (l++[x]))) (hl:l.length≤1000000) (h:Run W d k (x::st) ρ (zab H a (.list l)) Q):Run W d (.call 1::k) (.ref a::.raw (.builtin "list.pop")::st) ρ H Q:=
 zav (zkq e hl (R:=is _ _) ⟨rfl,rfl⟩) rfl (by rintro _ _ ⟨rfl,rfl⟩; exact h)
theorem zn8 {a:Addr} {l:List V} (e:H a=some (.list l)) (hl:l.length≤1000000) (h:∀ c,H c=none→Run W d k (.ref c::st) ρ (zab H c (.list l)) Q):Run W d (.call 1::k) (.ref a::.raw (.type "list")::st) ρ H Q:=
 zav (zkm e hl (R:=fun x H'=>∃ c,H c=none∧x=.ref c∧H'=zab H c (.list l)) fun c hc=>⟨c,hc,rfl,rfl⟩) rfl (by rintro _ _ ⟨c,hc,rfl,rfl⟩; exact h c hc)
theorem zn9 {l:List V} (hl:l.length≤1000000) (h:∀ c,H c=none→Run W d k (.ref c::st) ρ (zab H c (.list l)) Q):Run W d (.call 1::k) (.tup l::.raw (.type "list")::st) ρ H Q:=
 zav (zkn hl (R:=fun x H'=>∃ c,H c=none∧x=.ref c∧H'=zab H c (.list l)) fun c hc=>⟨c,hc,rfl,rfl⟩) rfl (by rintro _ _ ⟨c,hc,rfl,rfl⟩; exact h c hc)
theorem zn4 {i:Int} (h:Run W d k (.int i::st) ρ H Q):Run W d (.call 1::k) (.int i::.raw (.type "int")::st) ρ H Q:=
 zav (zkk (R:=is _ _) ⟨rfl,rfl⟩) rfl (by rintro _ _ ⟨rfl,rfl⟩; exact h)
theorem znW {a:Addr} {n:Nat} (e:H a=some (.list (List.replicate n (.bool true)))) (h:Run W d k (.bool true::st) ρ H Q):Run W d (.call 1::k) (.ref a::.raw (.builtin "all")::st) ρ H Q:=
 zav (zkf e (R:=is _ _) ⟨rfl,rfl⟩) rfl (by rintro _ _ ⟨rfl,rfl⟩; exact h)
theorem zop {a:Addr} (e:H a=some (.dict [])) (h:∀ c,H c=none→Run W d k (.ref c::st) ρ (zab H c (.list [])) Q):Run W d (.call 1::k) (.ref a::.raw (.builtin "sorted")::st) ρ H Q:=
 zav (zkr e (R:=fun x H'=>∃ c,H c=none∧x=.ref c∧H'=zab H c (.list [])) fun c hc=>⟨c,hc,rfl,rfl⟩) rfl (by rintro _ _ ⟨c,hc,rfl,rfl⟩; exact h c hc)
theorem zn0 {a:Addr} {l:List (Str × V)} {s:Str} {y x:V} (e:H a=some (.dict l)) (q:(dAt s l).getD y=x) (h:Run W d k (x::st) ρ H Q):Run W d (.call 3::k) (y::.str s::.ref a::.raw (.builtin "dict.get")::st) ρ H Q:=
 za0 (zkh e (R:=is x _) ⟨q,rfl⟩) rfl (by rintro _ _ ⟨rfl,rfl⟩; exact h)
theorem znZ {a:Addr} {i:Int} {y:V} (e:H a=some (.dict [])) (h:Run W d k (y::st) ρ H Q):Run W d (.call 3::k) (y::.int i::.ref a::.raw (.builtin "dict.get")::st) ρ H Q:=
 za0 (zki e (R:=is y _) ⟨rfl,rfl⟩) rfl (by rintro _ _ ⟨rfl,rfl⟩; exact h)
theorem zfr {a b:Int} (h:Run W d k (.int (a+b)::st) ρ H Q):Run W d (.bin .Add::k) (.int b::.int a::st) ρ H Q:=Run.bin (zm6 (R:=is _ _) ⟨rfl,rfl⟩) (by rintro _ _ ⟨rfl,rfl⟩; exact h)
theorem zor {a b:Int} (h:Run W d k (.int (a - b)::st) ρ H Q):Run W d (.bin .Sub::k) (.int b::.int a::st) ρ H Q:=Run.bin (znx (R:=is _ _) ⟨rfl,rfl⟩) (by rintro _ _ ⟨rfl,rfl⟩; exact h)
theorem zoh {a b:Int} (hm:IntMulOk a b) (h:Run W d k (.int (a * b)::st) ρ H Q):Run W d (.bin .Mult::k) (.int b::.int a::st) ρ H Q:=Run.bin (znp hm (R:=is _ _) ⟨rfl,rfl⟩) (by rintro _ _ ⟨rfl,rfl⟩; exact h)
theorem zc2 {a b:Int} (hb:b≠0) (h:Run W d k (.int (a.fmod b)::st) ρ H Q):Run W d (.bin .Mod::k) (.int b::.int a::st) ρ H Q:=Run.bin (zno hb (R:=is _ _) ⟨rfl,rfl⟩) (by rintro _ _ ⟨rfl,rfl⟩; exact h)
theorem zfv {a b:Int} (hb:b≠0) (hp:Builtin.divisionGoesByPylong a b=false) (h:Run W d k (.int (a.fdiv b)::st) ρ H Q):Run W d (.bin .FloorDiv::k) (.int b::.int a::st) ρ H Q:=Run.bin (zng hb hp (R:=is _ _) ⟨rfl,rfl⟩) (by rintro _ _ ⟨rfl,rfl⟩; exact h)
theorem znV {a b:Addr} {l l':List V} (e:H a=some (.list l)) (e':H b=some (.list l')) (hl:l.length+l'.length≤1000000) (h:∀ c,H c=none→Run W d k (.ref c::st) ρ (zab H c (.list (l++l'))) Q):Run W d (.bin .Add::k) (.ref b::.ref a::st) ρ H Q:=
 Run.bin (zm7 e e' hl (R:=fun x H'=>∃ c,H c=none∧x=.ref c∧H'=zab H c (.list (l++l'))) fun c hc=>⟨c,hc,rfl,rfl⟩) (by rintro _ _ ⟨c,hc,rfl,rfl⟩; exact h c hc)
theorem ziN {a:Addr} {x:V} {i:Int} (e:H a=some (.list [x])) (hl:-1000≤i∧i≤1000) (h:∀ c,H c=none→Run W d k (.ref c::st) ρ (zab H c (.list (List.replicate i.toNat x))) Q):Run W d (.bin .Mult::k) (.int i::.ref a::st) ρ H Q:=
 Run.bin (znq e hl (R:=fun x' H'=>∃ c,H c=none∧x'=.ref c∧H'=zab H c (.list (List.replicate i.toNat x))) fun c hc=>⟨c,hc,rfl,rfl⟩) (by rintro _ _ ⟨c,hc,rfl,rfl⟩; exact h c hc)
theorem ziC {l l':List V} (hl:l.length+l'.length≤1000) (h:Run W d k (.tup (l++l')::st) ρ H Q):Run W d (.bin .Add::k) (.tup l'::.tup l::st) ρ H Q:=Run.bin (zm8 hl (R:=is _ _) ⟨rfl,rfl⟩) (by rintro _ _ ⟨rfl,rfl⟩; exact h)
theorem r_lt {a b:Int} (h:Run W d k (.bool (decide (a < b))::st) ρ H Q):Run W d (.cmp .Lt::k) (.int b::.int a::st) ρ H Q:=Run.cmp (zit (R:=is _ _) ⟨rfl,rfl⟩) (by rintro _ _ ⟨rfl,rfl⟩; exact h)
theorem r_le {a b:Int} (h:Run W d k (.bool (decide (a≤b))::st) ρ H Q):Run W d (.cmp .LtE::k) (.int b::.int a::st) ρ H Q:=Run.cmp (zis (R:=is _ _) ⟨rfl,rfl⟩) (by rintro _ _ ⟨rfl,rfl⟩; exact h)
theorem r_gt {a b:Int} (h:Run W d k (.bool (decide (b < a))::st) ρ H Q):Run W d (.cmp .Gt::k) (.int b::.int a::st) ρ H Q:=Run.cmp (zni (R:=is _ _) ⟨rfl,rfl⟩) (by rintro _ _ ⟨rfl,rfl⟩; exact h)
theorem r_ge {a b:Int} (h:Run W d k (.bool (decide (b≤a))::st) ρ H Q):Run W d (.cmp .GtE::k) (.int b::.int a::st) ρ H Q:=Run.cmp (znh (R:=is _ _) ⟨rfl,rfl⟩) (by rintro _ _ ⟨rfl,rfl⟩; exact h)
theorem zdv {a b:Int} (h:Run W d k (.bool (a == b)::st) ρ H Q):Run W d (.cmp .Eq::k) (.int b::.int a::st) ρ H Q:=Run.cmp (znc (R:=is _ _) ⟨rfl,rfl⟩) (by rintro _ _ ⟨rfl,rfl⟩; exact h)
theorem r_ne {a b:Int} (h:Run W d k (.bool (a != b)::st) ρ H Q):Run W d (.cmp .NotEq::k) (.int b::.int a::st) ρ H Q:=Run.cmp (znr (R:=is _ _) ⟨rfl,rfl⟩) (by rintro _ _ ⟨rfl,rfl⟩; exact h)
theorem zn3 {a b:Str} (h:Run W d k (.bool (a == b)::st) ρ H Q):Run W d (.cmp .Eq::k) (.str b::.str a::st) ρ H Q:=Run.cmp (znf (R:=is _ _) ⟨rfl,rfl⟩) (by rintro _ _ ⟨rfl,rfl⟩; exact h)
theorem zoj {a b:Str} (h:Run W d k (.bool (a != b)::st) ρ H Q):Run W d (.cmp .NotEq::k) (.str b::.str a::st) ρ H Q:=Run.cmp (znu (R:=is _ _) ⟨rfl,rfl⟩) (by rintro _ _ ⟨rfl,rfl⟩; exact h)
theorem ziG {a b:Bool} (h:Run W d k (.bool (a == b)::st) ρ H Q):Run W d (.cmp .Eq::k) (.bool b::.bool a::st) ρ H Q:=Run.cmp (zne (R:=is _ _) ⟨rfl,rfl⟩) (by rintro _ _ ⟨rfl,rfl⟩; exact h)
theorem zoi {a b:Bool} (h:Run W d k (.bool (a != b)::st) ρ H Q):Run W d (.cmp .NotEq::k) (.bool b::.bool a::st) ρ H Q:=Run.cmp (znt (R:=is _ _) ⟨rfl,rfl⟩) (by rintro _ _ ⟨rfl,rfl⟩; exact h)
theorem r_is {x:V} (h:Run W d k (.bool x.isNone::st) ρ H Q):Run W d (.cmp .Is::k) (.none::x::st) ρ H Q:=Run.cmp (znk (R:=is _ _) ⟨rfl,rfl⟩) (by rintro _ _ ⟨rfl,rfl⟩; exact h)
theorem zn5 {x:V} (h:Run W d k (.bool (!x.isNone)::st) ρ H Q):Run W d (.cmp .IsNot::k) (.none::x::st) ρ H Q:=Run.cmp (znl (R:=is _ _) ⟨rfl,rfl⟩) (by rintro _ _ ⟨rfl,rfl⟩; exact h)
theorem ziI {x:Str} {l:List Str} {l':List V} (e:l'=l.map .str) (h:Run W d k (.bool (l.any (· == x))::st) ρ H Q):Run W d (.cmp .In::k) (.tup l'::.str x::st) ρ H Q:=by subst e; exact Run.cmp (znj (R:=is _ _) ⟨rfl,rfl⟩) (by rintro _ _ ⟨rfl,rfl⟩; exact h)
theorem zc0 {n m:Nat} {x y:V} {e f:PyData} {b:Bool} (hx:Dat H n x e) (hy:Dat H m y f) (hn:n≤60) (hm:m≤60) (hb:PyData.eqv e f=b) (h:Run W d k (.bool b::st) ρ H Q):Run W d (.cmp .Eq::k) (y::x::st) ρ H Q:=
 Run.cmp (znd hx hy hn hm (R:=is (.bool b) _) ⟨by rw [hb],rfl⟩) (by rintro _ _ ⟨rfl,rfl⟩; exact h)
theorem zcg {n m:Nat} {x y:V} {e f:PyData} {b:Bool} (hx:Dat H n x e) (hy:Dat H m y f) (hn:n≤60) (hm:m≤60) (hb:PyData.eqv e f=!b) (h:Run W d k (.bool b::st) ρ H Q):Run W d (.cmp .NotEq::k) (y::x::st) ρ H Q:=
 Run.cmp (zns hx hy hn hm (R:=is (.bool b) _) ⟨by rw [hb,Bool.not_not],rfl⟩) (by rintro _ _ ⟨rfl,rfl⟩; exact h)
theorem zn7 {a b:Int} (h:Run W d k (.bool (decide (a < b))::.int b::st) ρ H Q):Run W d (.cmpk .Lt::k) (.int b::.int a::st) ρ H Q:=Run.cmpk (zit ⟨rfl,rfl⟩) h
theorem zn6 {a b:Int} (h:Run W d k (.bool (decide (a≤b))::.int b::st) ρ H Q):Run W d (.cmpk .LtE::k) (.int b::.int a::st) ρ H Q:=Run.cmpk (zis ⟨rfl,rfl⟩) h
theorem zaB {a:Addr} {l:List V} {i:Int} {x:V} (e:H a=some (.list l)) (hi:-1000≤i∧i≤1000) (hx:at? l i=some x) (h:Run W d k (x::st) ρ H Q):Run W d (.idx::k) (.int i::.ref a::st) ρ H Q:=
 Run.idx (znm e hi hx (R:=is x H) ⟨rfl,rfl⟩) ⟨_,e,fun _ _ q=>nomatch q⟩ (by rintro _ _ ⟨rfl,rfl⟩; exact h)
theorem ziH {l:List V} {i:Int} {x:V} (hi:(decide (-1000≤i) && decide (i≤1000))=true) (hx:at? l i=some x) (h:Run W d k (x::st) ρ H Q):Run W d (.idx::k) (.int i::.tup l::st) ρ H Q:=
 Run.idx (znn (by simpa using hi) hx (R:=is x H) ⟨rfl,rfl⟩) trivial (by rintro _ _ ⟨rfl,rfl⟩; exact h)
theorem zfu {a:Addr} {l:List (Str × V)} {s:Str} {x:V} (e:H a=some (.dict l)) (hx:dAt s l=some x) (h:Run W d k (x::st) ρ H Q):Run W d (.idx::k) (.str s::.ref a::st) ρ H Q:=
 Run.idx (zna e hx (R:=is x H) ⟨rfl,rfl⟩) ⟨_,e,fun _ _ q=>nomatch q⟩ (by rintro _ _ ⟨rfl,rfl⟩; exact h)
theorem ziD {a:Addr} {l:List (List UInt8 × V)} {s:Array UInt8} {x:V} (e:H a=some (.dictB l)) (hx:dAt s.toList l=some x) (h:Run W d k (x::st) ρ H Q):Run W d (.idx::k) (.bytes s::.ref a::st) ρ H Q:=
 Run.idx (znb e hx (R:=is x H) ⟨rfl,rfl⟩) ⟨_,e,fun _ _ q=>nomatch q⟩ (by rintro _ _ ⟨rfl,rfl⟩; exact h)
theorem zdx {a:Addr} {l:List V} {i:Int} {x:V} (e:H a=some (.list l)) (h0:0≤i) (h1:i < l.length) (hl:l.length≤1000000) (h:Run W d k st ρ (zab H a (.list (l.set i.toNat x))) Q):Run W d (.sidx::k) (.int i::.ref a::x::st) ρ H Q:=
 Run.sidx (zkI e h0 h1 hl (R:=fun H'=>H'=_) rfl) (by rintro _ rfl; exact h)
theorem zon {a:Addr} {l:List V} {i:Nat} {x:V} (e:H a=some (.list l)) (h1:i < l.length) (hl:l.length≤1000000) (h:Run W d k st ρ (zab H a (.list (l.set i x))) Q):Run W d (.sidx::k) (.int (i:Nat)::.ref a::x::st) ρ H Q:=
 zdx e (Int.natCast_nonneg i) (Int.ofNat_lt.mpr h1) hl h
theorem ziF {a:Addr} {l:List (Str × V)} {s:Str} {x:V} (e:H a=some (.dict l)) (hl:l.length≤1000) (h:Run W d k st ρ (zab H a (.dict (zcr s x l))) Q):Run W d (.sidx::k) (.str s::.ref a::x::st) ρ H Q:=
 Run.sidx (zkF e hl (R:=fun H'=>H'=_) rfl) (by rintro _ rfl; exact h)
theorem znY {a:Addr} {s:Array UInt8} {x:V} (e:H a=some (.dict [])) (h:Run W d k st ρ (zab H a (.dictB [(s.toList,x)])) Q):Run W d (.sidx::k) (.bytes s::.ref a::x::st) ρ H Q:=
 Run.sidx (zkG e (R:=fun H'=>H'=_) rfl) (by rintro _ rfl; exact h)
theorem zok {a:Addr} {s:Array UInt8} (e:H a=some (.dict [])) (h:Run W d k (.bool true::st) ρ H Q):Run W d (.cmp .NotIn::k) (.ref a::.bytes s::st) ρ H Q:=Run.cmp (znw e (R:=is _ _) ⟨rfl,rfl⟩) (by rintro _ _ ⟨rfl,rfl⟩; exact h)
theorem zol {a:Addr} {l:List (List UInt8 × V)} {s:Array UInt8} {b:Bool} (e:H a=some (.dictB l)) (hb:(!(dAt s.toList l).isSome)=b) (h:Run W d k (.bool b::st) ρ H Q):Run W d (.cmp .NotIn::k) (.ref a::.bytes s::st) ρ H Q:=
 Run.cmp (znv e (R:=is (.bool b) _) ⟨by rw [hb],rfl⟩) (by rintro _ _ ⟨rfl,rfl⟩; exact h)
theorem zoo {a:Addr} {l:List V} {lo hi:Option Int} {u v:V} (hu:u=zbA lo) (hv:v=zbA hi) (e:H a=some (.list l)) (hl:l.length≤1000000) (h:∀ c,H c=none→Run W d k (.ref c::st) ρ (zab H c (.list (zbq l lo hi))) Q):Run W d (.slc::k) (v::u::.ref a::st) ρ H Q:=by
 subst hu hv
 exact Run.slc (zoQ e hl (R:=fun x H'=>∃ c,H c=none∧x=.ref c∧H'=zab H c (.list (zbq l lo hi))) fun c hc=>⟨c,hc,rfl,rfl⟩) ⟨_,e,fun _ _ q=>nomatch q⟩ (by rintro _ _ ⟨c,hc,rfl,rfl⟩; exact h c hc)
theorem zos (h:Run W d k (.tup []::st) ρ H Q):Run W d (.tup 0::k) st ρ H Q:=Run.tup (l:=[]) rfl (lin (.l K0 (.k 1000)) [] rfl) rfl h
theorem zot {a:V} (h:Run W d k (.tup [a]::st) ρ H Q):Run W d (.tup 1::k) (a::st) ρ H Q:=Run.tup (l:=[a]) rfl (lin (.l K1 (.k 1000)) [] rfl) rfl h
theorem ziR {a b:V} (h:Run W d k (.tup [a,b]::st) ρ H Q):Run W d (.tup 2::k) (b::a::st) ρ H Q:=Run.tup (l:=[a,b]) rfl (lin (.l K2 (.k 1000)) [] rfl) rfl h
theorem zou {a b c:V} (h:Run W d k (.tup [a,b,c]::st) ρ H Q):Run W d (.tup 3::k) (c::b::a::st) ρ H Q:=Run.tup (l:=[a,b,c]) rfl (lin (.l (.k 3) (.k 1000)) [] rfl) rfl h
theorem zov {a b c e:V} (h:Run W d k (.tup [a,b,c,e]::st) ρ H Q):Run W d (.tup 4::k) (e::c::b::a::st) ρ H Q:=Run.tup (l:=[a,b,c,e]) rfl (lin (.l (.k 4) (.k 1000)) [] rfl) rfl h
theorem zow {a b c e f:V} (h:Run W d k (.tup [a,b,c,e,f]::st) ρ H Q):Run W d (.tup 5::k) (f::e::c::b::a::st) ρ H Q:=Run.tup (l:=[a,b,c,e,f]) rfl (lin (.l (.k 5) (.k 1000)) [] rfl) rfl h
theorem zc1 (h:∀ c,H c=none→Run W d k (.ref c::st) ρ (zab H c (.list [])) Q):Run W d (.lst 0::k) st ρ H Q:=Run.lst (l:=[]) rfl (lin (.l K0 (.k 1000)) [] rfl) rfl h
theorem ziK {a:V} (h:∀ c,H c=none→Run W d k (.ref c::st) ρ (zab H c (.list [a])) Q):Run W d (.lst 1::k) (a::st) ρ H Q:=Run.lst (l:=[a]) rfl (lin (.l K1 (.k 1000)) [] rfl) rfl h
theorem zoa {a b:V} (h:∀ c,H c=none→Run W d k (.ref c::st) ρ (zab H c (.list [a,b])) Q):Run W d (.lst 2::k) (b::a::st) ρ H Q:=Run.lst (l:=[a,b]) rfl (lin (.l K2 (.k 1000)) [] rfl) rfl h
theorem zoc {a b e:V} (h:∀ c,H c=none→Run W d k (.ref c::st) ρ (zab H c (.list [a,b,e])) Q):Run W d (.lst 3::k) (e::b::a::st) ρ H Q:=Run.lst (l:=[a,b,e]) rfl (lin (.l (.k 3) (.k 1000)) [] rfl) rfl h
theorem zod {a b e f:V} (h:∀ c,H c=none→Run W d k (.ref c::st) ρ (zab H c (.list [a,b,e,f])) Q):Run W d (.lst 4::k) (f::e::b::a::st) ρ H Q:=Run.lst (l:=[a,b,e,f]) rfl (lin (.l (.k 4) (.k 1000)) [] rfl) rfl h
theorem r_t {t e:List I} {b:Bool} (hb:b=true) (h:Run W d (t++k) st ρ H Q):Run W d (.ite t e::k) (.bool b::st) ρ H Q:=by subst hb; exact Run.ite h
theorem r_f {t e:List I} {b:Bool} (hb:b=false) (h:Run W d (e++k) st ρ H Q):Run W d (.ite t e::k) (.bool b::st) ρ H Q:=by subst hb; exact Run.ite h
theorem zdy {a b:V} (h:Run W d k (a::b::st) ρ H Q):Run W d (.unp 2::k) (.tup [a,b]::st) ρ H Q:=Run.unp (l:=[a,b]) rfl h
theorem zox {a b c:V} (h:Run W d k (a::b::c::st) ρ H Q):Run W d (.unp 3::k) (.tup [a,b,c]::st) ρ H Q:=Run.unp (l:=[a,b,c]) rfl h
theorem ziS {a b c e:V} (h:Run W d k (a::b::c::e::st) ρ H Q):Run W d (.unp 4::k) (.tup [a,b,c,e]::st) ρ H Q:=Run.unp (l:=[a,b,c,e]) rfl h
theorem zbc {i:Nat} {v:V} (hi:Nat.blt i ρ.length=true) (h:Run W d k st (ρ.set i (some v)) H Q):Run W d (.sto i::k) (v::st) ρ H Q:=Run.sto (Nat.le_of_ble_eq_true hi) h
end
local macro_rules | `(tactic| walk_at "ne")=>`(tactic| first
 | assumption
 | (apply zal <;> assumption)
 | (apply Ne.symm; apply zal <;> assumption)
 | exact zam (by assumption) (by assumption) rfl)
local macro_rules | `(tactic| walk_at "h")=>`(tactic| first
 | assumption
 | exact zai
 | (apply zak; (walk_at "h"); (walk_at "ne")))
local macro_rules | `(tactic| walk_at "n")=>`(tactic| first
 | lia
 | (simp only [List.length_map,List.length_append,List.length_cons,List.length_nil,List.length_replicate,List.length_set]; lia))
local macro_rules | `(tactic| walk_at "r1")=>`(tactic| first
 | refine Run.loc rfl ?_
 | apply Run.lit
 | (apply znX; (walk_at "h"); (rfl); (first | rfl | assumption))
 | apply Run.chk
 | apply Run.notb
 | apply Run.neg
 | apply Run.pop
 | (refine zbc rfl ?_; try simp only [List.set_cons_succ,List.set_cons_zero])
 | apply zfr
 | apply zor
 | apply r_lt
 | apply r_le
 | apply r_gt
 | apply r_ge
 | apply zdv
 | apply r_ne
 | apply zn3
 | apply zoj
 | apply r_is
 | apply zn5
 | apply zn7
 | apply zn6
 | apply zoe
 | apply zof
 | (refine ziH rfl rfl ?_)
 | apply zos
 | apply zot
 | apply ziR
 | apply zou
 | apply zov
 | apply zow
 | apply zdy
 | apply zox
 | apply ziS
 | (apply zog; (walk_at "h"); (rfl))
 | (apply zcK; (walk_at "h"); (walk_at "n"))
 | (apply r_lenT; (walk_at "n"))
 | (refine r_t rfl ?_; try simp only [List.cons_append,List.nil_append])
 | (refine r_f rfl ?_; try simp only [List.cons_append,List.nil_append]))
local macro_rules | `(tactic| walk_at "r")=>`(tactic| repeat walk_at "r1")
local macro_rules | `(tactic| walk_at "c")=>`(tactic| ((try simp only [List.cons_append,List.nil_append]); walk_at "r"))
noncomputable def pn:Nat→V
 | 1=>.tup [.int 1,.int 3,.int (-1),.int (-1),.int 0]
 | 2=>.tup [.int 4,.int (-1),.int (-1),.int 5,.int 0]
 | _=>.tup [.int 0,.int (-1),.int (-1),.int (-1),.int 0]
noncomputable def pd:Nat→PyData
 | 1=>.tuple [.int 1,.int 3,.int (-1),.int (-1),.int 0]
 | 2=>.tuple [.int 4,.int (-1),.int (-1),.int 5,.int 0]
 | _=>.tuple [.int 0,.int (-1),.int (-1),.int (-1),.int 0]
theorem zfq (k:Nat):∃ a b c,pn k=.tup [.int a,.int b,.int (-1),.int c,.int 0]:=by
 unfold pn; split <;> exact ⟨_,_,_,rfl⟩
structure zaa where
 cs:List Nat
 w:Nat
 k:Nat
deriving DecidableEq
noncomputable def isV (l:List Nat):List V:=l.map fun (n:Nat)=>V.int (n:Int)
noncomputable def isD (l:List Nat):List PyData:=l.map fun (n:Nat)=>PyData.int (n:Int)
noncomputable def zaa.v (c:zaa):V:=.tup [.tup (isV c.cs),.int (c.w:Int),pn c.k,.bool false]
noncomputable def zaa.d (c:zaa):PyData:=.tuple [.tuple (isD c.cs),.int (c.w:Int),pd c.k,.bool false]
noncomputable def zar:zaa:=⟨[],1,0⟩
noncomputable def zbM (k:Nat):zaa:=⟨[],0,k⟩
theorem zdj {H:Hp} {n:Nat}:∀ l:List Nat,zaS H n (isV l) (isD l)
 | []=>.nil
 | _::l=>.cons .int (zdj l)
theorem zdR {H:Hp} {n:Nat} (k:Nat):Dat H (n+1) (pn k) (pd k):=by
 unfold pn pd; split <;> exact .tup (.cons .int (.cons .int (.cons .int (.cons .int (.cons .int .nil)))))
theorem zeQ {H:Hp} {n:Nat} (c:zaa):Dat H (n+2) c.v c.d:=.tup (.cons (.tup (zdj _)) (.cons .int (.cons (zdR _) (.cons .bool .nil))))
theorem zeR {H:Hp} {n:Nat}:∀ l:List zaa,zaS H (n+2) (l.map zaa.v) (l.map zaa.d)
 | []=>.nil
 | c::l=>.cons (zeQ c) (zeR l)
noncomputable def zaa.isB (c:zaa):Bool:=c.cs.isEmpty && c.w == 1
noncomputable def zaa.isP (c:zaa):Bool:=c.cs.isEmpty && (c.w == 1 && (c.k != 1 && c.k != 2))
theorem zkL (k:Nat):PyData.eqv (pd k) (pd 0)=(k != 1 && k != 2):=by
 unfold pd
 split <;> simp [PyData.eqv,PyData.eqvAll]
 rename_i h1 h2; exact ⟨h1,h2⟩
theorem zeY (l:List Nat):PyData.eqv (.tuple (isD l)) (.tuple [])=l.isEmpty:=by
 rcases l with _ | _ <;> simp [PyData.eqv,PyData.eqvAll,isD]
theorem zd6 (a b:Nat):((a:Int) == (b:Int))=(a == b):=by rw [Bool.eq_iff_iff]; simp; lia
theorem zkM (c:zaa):PyData.eqv c.d zar.d=c.isP:=by
 unfold zaa.d zaa.isP zar
 simp only [PyData.eqv,PyData.eqvAll]
 have e1:=zeY c.cs
 have e2:=zkL c.k
 simp only [PyData.eqv] at e1
 rw [show isD []=[] from rfl,e1,e2,show ((c.w:Int) == ((1:Nat):Int))=(c.w == 1) from zd6 _ _]
 simp
inductive zd5 (l:List V) (H:Hp) (x:V) (H':Hp):Prop
 | mk (c:Nat) (e:x=.ref c) (f:H c=none) (g:H' c=some (.list l)) (E:Ext H H')
section
variable {W:Wx} {H:Hp}
theorem zfE (v lo hi:Int):zae W 1 (.ref 62) [.int v,.int lo,.int hi] H (is (.int (max lo (min v hi))) H):=by
 refine zl1 _ _ _ ?_
 unfold zg0
 walk_at "r"
 exact Run.ret ⟨rfl,rfl⟩
theorem zpe (k:Nat):zae W 1 (.ref 69) [pn k] H (is (pn 0) H):=by
 refine zl9 _ ?_
 unfold zg8
 obtain ⟨a,b,c,e⟩:=zfq k
 rw [e]
 walk_at "r"
 exact Run.ret ⟨rfl,rfl⟩
theorem zfC (k:Nat):zae W 2 (.ref 76) [pn k] H (is zar.v H):=by
 refine zmc _ ?_
 unfold zhb
 walk_at "r"
 refine zav ((zpe k).tu rfl) rfl ?_
 rintro _ _ ⟨rfl,rfl⟩
 walk_at "r"
 exact Run.ret ⟨rfl,rfl⟩
theorem zje (c:zaa):zae W 1 (.ref 83) [c.v] H (is (.bool c.isB) H):=by
 refine zmf _ ?_
 unfold zhe zaa.v
 walk_at "r"
 refine zc0 (n:=1) (m:=1) (.tup (zdj _)) (.tup .nil) (lin (.l K1 (.k 60)) [] rfl) (lin (.l K1 (.k 60)) [] rfl) (zeY _) ?_
 walk_at "r"
 induction q:c.cs.isEmpty with
 | true =>
  refine r_t rfl ?_
  simp only [List.cons_append,List.nil_append]
  walk_at "r"
  refine Run.ret ⟨?_,rfl⟩
  unfold zaa.isB
  rw [q,show ((c.w:Int) == 1)=(c.w == 1) from zd6 _ 1]; rfl
 | false =>
  refine r_f rfl ?_
  simp only [List.cons_append,List.nil_append]
  walk_at "r"
  refine Run.ret ⟨?_,rfl⟩
  unfold zaa.isB
  rw [q]; rfl
theorem zjf (c:zaa):zae W 1 (.ref 90) [c.v] H (is (.bool c.isP) H):=by
 refine zmk _ ?_
 unfold zhi
 walk_at "r"
 refine zc0 (n:=2) (m:=2) (zeQ c) (zeQ zar) (lin (.l K2 (.k 60)) [] rfl) (lin (.l K2 (.k 60)) [] rfl) (zkM c) ?_
 exact Run.ret ⟨rfl,rfl⟩
theorem zpm (c:zaa):zae W 1 (.ref 105) [c.v] H (is (zbM c.k).v H):=by
 refine zk3 _ ?_
 unfold zf5 zaa.v
 walk_at "r"
 exact Run.ret ⟨rfl,rfl⟩
theorem zo7 (n:Int) (k:Nat) (hn:n≤1000):zae W 3 (.ref 98) [.int n,pn k] H (zd5 (List.replicate n.toNat zar.v) H):=by
 refine zmp _ _ ?_
 unfold zhn
 walk_at "r"
 refine zav ((zfC k).tu rfl) rfl ?_
 rintro _ _ ⟨rfl,rfl⟩
 refine ziK fun c hc=>?_
 walk_at "r"
 refine ziN zai (by lia) fun c' hc'=>?_
 refine Run.ret ⟨c',rfl,?_,?_,?_⟩
 ·unfold zab at hc'; split at hc'; · injection hc'
  ·exact hc'
 ·rw [zai,n_mt n]
 ·exact (Ext.new hc).trans (Ext.new hc')
theorem zpt {a:Addr} {cs:List zaa} {i:Int} (e:H a=some (.list (cs.map zaa.v))) (hl:cs.length≤1000) (hi:-1000≤i∧i≤1000) (hw:∀ (j:Nat) c,i=j→cs[j]?=some c→c.w≠0) :
  zae W 1 (.ref 112) [.ref a,.int i] H (is .none H):=by
 refine zk4 _ _ ?_
 unfold zf6
 walk_at "r"
 have fin:∀ {k:List I},Run W 0 [] [] [some (.ref a),some (.int i)] H (zan (is .none H)):=Run.nil ⟨rfl,rfl⟩
 by_cases h0:0 < i
 ·refine r_t (decide_eq_true h0) ?_
  simp only [List.cons_append,List.nil_append]
  walk_at "r"
  by_cases h1:i < cs.length
  ·refine r_t (decide_eq_true (by simpa using h1)) ?_
   simp only [List.cons_append,List.nil_append]
   obtain ⟨j,rfl⟩:=Int.eq_ofNat_of_zero_le (Int.le_of_lt h0)
   obtain ⟨c,hc⟩:∃ c,cs[j]?=some c:=⟨cs[j]'(zad (.i (.T (.c Va) (.c Vb)) (.t Va Vb)) rfl h1),List.getElem?_eq_getElem (zad (.i (.T (.c Va) (.c Vb)) (.t Va Vb)) rfl h1)⟩
   have hw':=hw j c rfl hc
   walk_at "r"
   refine zaB e hi (x:=c.v) (by unfold at?; rw [if_neg (by exact zag (.n (.T (.c Va) K0)) rfl)]; simp [hc]) ?_
   unfold zaa.v
   walk_at "r"
   refine r_f (by simp; exact zag (.i (.n (.e Va K0)) (.n (.e Va K0))) rfl hw') ?_
   simp only [List.nil_append]
   exact Run.nil ⟨rfl,rfl⟩
  ·refine r_f (decide_eq_false (by simpa using h1)) ?_
   walk_at "c"
   exact Run.nil ⟨rfl,rfl⟩
 ·refine r_f (decide_eq_false h0) ?_
  walk_at "c"
  exact Run.nil ⟨rfl,rfl⟩
end
set_option genInjectivity false in
set_option genSizeOf false in
structure Ln where
 a:Nat
 c:Nat
 cells:List zaa
 wr:Bool
noncomputable def lf (c:Nat) (wr:Bool):List (Nat × V):=[(0,.ref c),(1,.bool wr),(2,.str (S "single"))]
structure zaD (H:Hp) (l:Ln):Prop where
 o:H l.a=some (.inst 251 (lf l.c l.wr))
 cs:H l.c=some (.list (l.cells.map zaa.v))
theorem zaD.ext {H H':Hp} {l:Ln} (h:zaD H l) (e:Ext H H'):zaD H' l:=⟨e _ _ h.o,e _ _ h.cs⟩
inductive zmZ (n:Nat) (H:Hp) (x:V) (H':Hp):Prop
 | mk (l:Ln) (e:x=.ref l.a) (f:H l.a=none) (f':H l.c=none) (at_:zaD H' l) (c:l.cells=List.replicate n zar) (w:l.wr=false) (E:Ext H H')
noncomputable def zb8 (cs:List zaa) (j:Nat) (c:zaa):List zaa:=if c.w=2 then (cs.set j c).set (j+1) (zbM c.k) else cs.set j c
theorem map_set (cs:List zaa) (j:Nat) (c:zaa):(cs.map zaa.v).set j c.v=(cs.set j c).map zaa.v:=by rw [List.map_set]
section
variable {W:Wx} {H:Hp}
theorem zoX {a:Nat} (n:Nat) (k:Nat) (hn:n≤1000) (e:H a=some (.inst 251 [])) :
  zae W 4 (.ref 140) [.ref a,.int n,pn k] H fun x H'=>x=.none∧∃ c,H c=none∧H' a=some (.inst 251 (lf c false))∧H' c=some (.list ((List.replicate n zar).map zaa.v))∧∀ b m,b≠a→H b=some m→H' b=some m:=by
 refine zlr _ _ _ ?_
 unfold zgt
 walk_at "r"
 refine zas ((zo7 n k (zag (.i (.l Va (.k 1000)) (.L (.c Va) (.k 1000))) rfl hn)).tu rfl) rfl ?_
 rintro _ H1 ⟨c,rfl,hc,hc1,hE⟩
 have ca:c≠a:=fun z=>by rw [z,e] at hc; injection hc
 walk_at "r"
 refine zaq (hE _ _ e) rfl rfl ?_
 walk_at "r"
 refine zaq zai rfl rfl ?_
 walk_at "r"
 refine zaq zai rfl rfl ?_
 rw [zaC,zaC]
 refine Run.nil ⟨rfl,c,hc,zai,?_,fun b m hb hm=>?_⟩
 ·rw [zao ca,hc1,List.map_replicate,Int.toNat_natCast]
 ·rw [zao hb]; exact hE _ _ hm
theorem zfG (n:Nat) (k:Nat) (hn:n≤1000):zae W 5 (.ref 251) [.int n,pn k] H (zmZ n H):=by
 refine zbw (f:=140) (by decide) fun a ha=>(zoX n k hn zai).mono ?_
 rintro _ H' ⟨rfl,c,hc,h1,h2,h3⟩
 have ca:c≠a:=fun z=>by rw [z,zai] at hc; injection hc
 refine ⟨rfl,⟨a,c,List.replicate n zar,false⟩,rfl,ha,?_,⟨h1,h2⟩,rfl,rfl,fun b m hm=>h3 b m (zal hm ha) (Ext.new ha _ _ hm)⟩
 rw [zao ca] at hc; exact hc
theorem zjk {l:Ln} {i:Int} (h:zaD H l) (hl:l.cells.length≤1000) (hi:-1000≤i∧i≤1000) (hw:∀ (j:Nat) c,i=j→l.cells[j]?=some c→c.w≠0) :
  zae W 2 (.ref 162) [.ref l.a,.int i] H (is .none H):=by
 refine zlC _ _ ?_
 unfold zgD
 obtain ⟨h1,h2⟩:=h
 unfold lf at h1
 walk_at "r"
 refine zas ((zpt h2 hl hi hw).tu rfl) rfl ?_
 rintro _ _ ⟨rfl,rfl⟩
 walk_at "r"
 exact Run.nil ⟨rfl,rfl⟩
theorem zjl {l:Ln} {j:Nat} {c:zaa} (h:zaD H l) (hl:l.cells.length≤500) (hc:c.w=1∨c.w=2) (hj:j+c.w≤l.cells.length) (h1:∀ c',l.cells[j]?=some c'→c'.w≠0) (h2:∀ c',l.cells[j+c.w]?=some c'→c'.w≠0) :
  zae W 3 (.ref 169) [.ref l.a,.int j,c.v] H (is .none (zab H l.c (.list ((zb8 l.cells j c).map zaa.v)))):=by
 refine zlD _ _ _ ?_
 unfold zgE
 have ho:=h.o
 have hcs:=h.cs
 unfold lf at ho
 have hlen:(l.cells.map zaa.v).length=l.cells.length:=List.length_map ..
 walk_at "r"
 refine r_f (by simp; exact zaj (.i (.O (.e Va K1) (.e Va K2)) (.i (.l (.a Vb Va) Vc) (.t Vb Vc))) rfl hc hj) ?_
 walk_at "c"
 refine r_f (by simp; exact zag (.i (.O (.e Va K1) (.e Va K2)) (.n (.e Va K0))) rfl hc) ?_
 walk_at "c"
 have p1:∀ (j':Nat) c',(j:Int)=j'→l.cells[j']?=some c'→c'.w≠0:=by
  intro j' c' q hc'
  have:j'=j:=by exact zad (.i (.E (.c Va) (.c Vb)) (.e Vb Va)) rfl q
  subst this; exact h1 c' hc'
 have p2:∀ (j':Nat) c',(j:Int)+(c.w:Int)=j'→l.cells[j']?=some c'→c'.w≠0:=by
  intro j' c' q hc'
  have:j'=j+c.w:=by exact zaj (.i (.E (.a (.c Va) (.c Vb)) (.c Vc)) (.e Vc (.a Va Vb))) rfl q
  subst this; exact h2 c' hc'
 have put1:∀ {k:List I} {Q:Out→Prop},Run W 2 k [] [some (.ref l.a),some (.int j),some c.v] (zab H l.c (.list ((l.cells.set j c).map zaa.v))) Q →
   Run W 2 (.call 2::.pop::Y0::.mth 0::Y1::Y2::(iI 1)::.idx::.bin .Add::.call 2::.pop::Y2::Y0::.attr 0::Y1::.sidx::k) [.int j,.ref l.a,.raw (.ref 162)] [some (.ref l.a),some (.int j),some c.v] H Q:=fun {k Q} r=>by
  refine zas ((zjk h (zag (.i (.l Va (.k 500)) (.l Va (.k 1000))) rfl hl) (zaj (.i (.l Va (.k 500)) (.i (.l (.a Vb Vc) Va) (.A (.L (.g (.k 1000)) (.c Vb)) (.L (.c Vb) (.k 1000))))) rfl hl hj) p1).tu rfl) rfl ?_
  rintro _ _ ⟨rfl,rfl⟩
  walk_at "r"
  refine zas ((zjk h (i:=(j:Int)+(c.w:Int)) (zag (.i (.l Va (.k 500)) (.l Va (.k 1000))) rfl hl) (zaj (.i (.l Va (.k 500)) (.i (.l (.a Vb Vc) Va) (.A (.L (.g (.k 1000)) (.a (.c Vb) (.c Vc))) (.L (.a (.c Vb) (.c Vc)) (.k 1000))))) rfl hl hj) p2).tu rfl) rfl ?_
  rintro _ _ ⟨rfl,rfl⟩
  walk_at "r"
  refine zdx hcs (zag (.L K0 (.c Va)) rfl) (zaG (.i (.O (.e Va K1) (.e Va K2)) (.i (.l (.a Vb Va) Vc) (.i (.e Vd Vc) (.T (.c Vb) (.c Vd))))) rfl hc hj hlen) (zad (.i (.l Va (.k 500)) (.i (.e Vb Va) (.l Vb (.k 1000000)))) rfl hl hlen) ?_
  rw [← map_set] at r
  exact r
 rcases hc with hw | hw
 ·refine r_f (by simp [hw]) ?_
  walk_at "c"
  refine put1 ?_
  walk_at "r"
  refine r_f (by simp [hw]) ?_
  refine Run.nil ⟨rfl,?_⟩
  rw [show zb8 l.cells j c=l.cells.set j c by unfold zb8; rw [if_neg (by exact zag (.i (.e Va K1) (.n (.e Va K2))) rfl hw)]]
 ·refine r_t (by simp [hw]) ?_
  walk_at "c"
  refine r_f (by simp; exact zaj (.i (.l (.a Va Vb) Vc) (.i (.e Vb K2) (.n (.E (.a (.c Va) K1) (.c Vc))))) rfl hj hw) ?_
  walk_at "c"
  refine put1 ?_
  have ac:l.a≠l.c:=zam ho hcs rfl
  walk_at "r"
  refine r_t (by simp [hw]) ?_
  walk_at "c"
  refine zav ((zpm c).tu rfl) rfl ?_
  rintro _ _ ⟨rfl,rfl⟩
  walk_at "r"
  refine zdx zai (zag (.L K0 (.a (.c Va) K1)) rfl) (by simp; exact zaj (.i (.l (.a Va Vb) Vc) (.i (.e Vb K2) (.T (.a (.c Va) K1) (.c Vc)))) rfl hj hw) (by simp; exact zag (.i (.l Va (.k 500)) (.l Va (.k 1000000))) rfl hl) ?_
  refine Run.nil ⟨rfl,?_⟩
  rw [zaC,show zb8 l.cells j c=(l.cells.set j c).set (j+1) (zbM c.k) by unfold zb8; rw [if_pos hw]]
  have e:((j:Int)+1).toNat=j+1:=by exact zag (.e (.t (.a (.c Va) K1)) (.a Va K1)) rfl
  rw [e]
  exact congrArg (fun x=>zab H l.c (.list x)) (map_set _ _ _)
theorem zju:PyData.strOk (S "single")=true:=by decide +kernel
theorem zeS {l:Ln} (h:zaD H l):Dat H 4 (.tup [.ref l.c,.bool l.wr,.str (S "single")]) (.tuple [.list (l.cells.map zaa.d),.bool l.wr,.str (S "single")]):=
 .tup (.cons (.list h.cs (zeR _)) (.cons .bool (.cons (.str zju) .nil)))
theorem zoW {l m:Ln} (h:zaD H l) (h':zaD H m) (e:l.cells=m.cells) (e':l.wr=m.wr):zae W 1 (.ref 248) [.ref l.a,.ref m.a] H (is (.bool true) H):=by
 refine zlE _ _ ?_
 unfold zgF
 have ho:=h.o
 have hm:=h'.o
 unfold lf at ho hm
 walk_at "r"
 refine zc0 (zeS h) (zeS h') (lin (.l (.k 4) (.k 60)) [] rfl) (lin (.l (.k 4) (.k 60)) [] rfl) (b:=true) ?_ ?_
 ·rw [e,e']; exact (zeS h').eqv_self
 ·exact Run.ret ⟨rfl,rfl⟩
end
set_option genInjectivity false in
set_option genSizeOf false in
structure Scr where
 sc:Nat
 gr:Nat
 gl:Nat
 hi:Nat
 hl:Nat
 cu:Nat
 ma:Nat
 ch:Nat
 md:Nat
 nm:Nat
 mo:Nat
 st:Nat
 kp:Nat
 wt:Nat
 wd:Nat
 mkr:Nat
 jn:Nat
 tb:Nat
 sp:Nat
 la:Nat
 rows:Nat
 cols:Nat
 hist:List Ln
 grid:List Ln
 row:Nat
 col:Nat
 wait:Bool
 pen:Nat
namespace Scr
noncomputable def all (s:Scr):List Ln:=s.hist++s.grid
noncomputable def scF (s:Scr):List (Nat × V):=[(3,.int s.rows),(4,.int s.cols),(31,.ref s.mo),(32,.ref s.wt),(33,.ref s.hi),(34,.ref s.gr),(35,.ref s.cu),(36,.ref s.ma),(37,.ref s.tb),(38,.ref s.ch),(39,.none),(40,.ref s.la),(41,.bool false)]
noncomputable def grF (s:Scr):List (Nat × V):=[(3,.int s.rows),(4,.int s.cols),(5,.ref s.gl)]
noncomputable def hiF (s:Scr):List (Nat × V):=[(6,.int 400),(5,.ref s.hl),(7,.int 0)]
noncomputable def cuF (s:Scr):List (Nat × V):=[(11,.int s.row),(12,.int s.col),(13,.bool s.wait),(25,pn s.pen),(26,.bool false),(27,.bool false)]
noncomputable def maF (s:Scr):List (Nat × V):=[(3,.int s.rows),(4,.int s.cols),(28,.int 0),(29,.int ((s.rows:Int) - 1)),(22,.int 0),(23,.int ((s.cols:Int) - 1))]
noncomputable def chF (s:Scr):List (Nat × V):=[(20,.ref s.md),(21,.ref s.nm),(22,.int 0),(23,.int 2),(24,.none)]
noncomputable def moF (s:Scr):List (Nat × V):=[(18,.ref s.st),(19,.ref s.kp)]
noncomputable def wtF (s:Scr):List (Nat × V):=[(15,.ref s.wd),(16,.ref s.mkr),(17,.ref s.jn)]
noncomputable def tbF (s:Scr):List (Nat × V):=[(4,.int s.cols),(30,.ref s.sp)]
noncomputable def foot (s:Scr):List Nat:=[s.sc,s.cu,s.md,s.gr,s.hl,s.tb]++(s.all.map (·.a)++s.all.map (·.c))
end Scr
noncomputable def onL:List (Str × V):=[(S "send_receive",.bool true),(S "autowrap",.bool true),(S "autorepeat",.bool true),(S "show_cursor",.bool true),(S "num_lock",.bool true)]
noncomputable def nmL:List V:=[.bytes #[66],.bytes #[66],.bytes #[37,53],.bytes #[37,53]]
noncomputable def zah (l:List Ln):List V:=l.map fun x=>.ref x.a
structure Is (H:Hp) (s:Scr):Prop where
 sc:H s.sc=some (.inst 1485 s.scF)
 gr:H s.gr=some (.inst 396 s.grF)
 gl:H s.gl=some (.list (zah s.grid))
 hi:H s.hi=some (.inst 478 s.hiF)
 hl:H s.hl=some (.list (zah s.hist))
 cu:H s.cu=some (.inst 976 s.cuF)
 ma:H s.ma=some (.inst 1109 s.maF)
 ch:H s.ch=some (.inst 920 s.chF)
 md:H s.md=some (.dict [])∨∃ e,H s.md=some (.dictB [([66],.ref e)])∧H e=some (.dict [])
 nm:H s.nm=some (.list nmL)
 mo:H s.mo=some (.inst 792 s.moF)
 st:H s.st=some (.dict onL)
 wt:H s.wt=some (.inst 716 s.wtF)
 wd:H s.wd=some (.list [.tup [.int 19968,.int 20223]])
 mkr:H s.mkr=some (.list [.tup [.int 768,.int 879]])
 tb:H s.tb=some (.inst 1208 s.tbF)
 sp:H s.sp=some (.dict [])
 ln:∀ l ∈ s.all,zaD H l
 sep:∀ l ∈ s.all,l.c ∉ [s.gl,s.hl,s.nm,s.wd,s.mkr]
 hs:s.hl ∉ [s.gl,s.nm,s.wd,s.mkr]
 nda:(s.all.map (·.a)).Nodup
 ndc:(s.all.map (·.c)).Nodup
 ms:s.md≠s.st∧s.md≠s.sp
 wid:∀ l ∈ s.all,l.cells.length=s.cols
 rwb:1≤s.rows∧s.rows≤4
 cl:2≤s.cols∧s.cols≤7
 gn:s.grid.length=s.rows
 hn:s.hist.length≤300
 rb:s.row < s.rows
 cb:s.col < s.cols
structure Frm (s:Scr) (H:Hp) (s':Scr) (H':Hp):Prop where
 keep:∀ a m,H a=some m→a ∉ s.foot→H' a=some m
 new:∀ a ∈ s'.foot,a ∈ s.foot∨H a=none
theorem Frm.refl {s:Scr} {H:Hp}:Frm s H s H:=⟨fun _ _ h _=>h,fun _ h=>.inl h⟩
theorem Frm.trans {s s' s'':Scr} {H H' H'':Hp} (f:Frm s H s' H') (g:Frm s' H' s'' H''):Frm s H s'' H'':=by
 have zaE:∀ a,H' a=none→a ∈ s.foot∨H a=none:=fun a e=>by
  induction q:H a with
  | none=>exact .inr rfl
  | some m=>exact .inl (Classical.byContradiction fun z=>by rw [f.keep a m q z] at e; injection e)
 refine ⟨fun a m h z=>g.keep a m (f.keep a m h z) fun z'=>?_,fun a h=>?_⟩
 ·rcases f.new a z' with q | q
  ·exact z q
  ·rw [q] at h; injection h
 ·rcases g.new a h with q | q
  ·exact f.new a q
  ·exact zaE a q
theorem Frm.ext {s:Scr} {H H':Hp} (e:Ext H H'):Frm s H s H':=⟨fun a m h _=>e a m h,fun _ h=>.inl h⟩
theorem Frm.set {s s':Scr} {H:Hp} {a:Nat} {m:MO} (h:a ∈ s.foot) (e:s'.foot=s.foot):Frm s H s' (zab H a m):=
 ⟨fun b x hb z=>zak hb fun q=>z (q ▸ h),fun b hb=>.inl (e ▸ hb)⟩
theorem zbE {H:Hp} {a:Addr} {m:MO} (h:H a=some m):zab H a m=H:=by
 funext b; unfold zab; split
 ·rename_i q; subst q; exact h.symm
 ·rfl
namespace Is
variable {H:Hp} {s:Scr}
theorem ext {H':Hp} (h:Is H s) (e:Ext H H'):Is H' s:=
 ⟨e _ _ h.sc,e _ _ h.gr,e _ _ h.gl,e _ _ h.hi,e _ _ h.hl,e _ _ h.cu,e _ _ h.ma,e _ _ h.ch,h.md.imp (e _ _) fun ⟨x,a,b⟩=>⟨x,e _ _ a,e _ _ b⟩,e _ _ h.nm,e _ _ h.mo,e _ _ h.st,e _ _ h.wt,e _ _ h.wd,e _ _ h.mkr,e _ _ h.tb,e _ _ h.sp,
  fun l hl=>(h.ln l hl).ext e,h.sep,h.hs,h.nda,h.ndc,h.ms,h.wid,h.rwb,h.cl,h.gn,h.hn,h.rb,h.cb⟩
theorem setCu (h:Is H s) (r c:Nat) (w:Bool) (p:Nat) (hr:r < s.rows) (hc:c < s.cols):Is (zab H s.cu (.inst 976 { s with row:=r,col:=c,wait:=w,pen:=p }.cuF)) { s with row:=r,col:=c,wait:=w,pen:=p }:=by
 have n:∀ {a m},H a=some m→(m.kd == 979)=false→zab H s.cu (.inst 976 { s with row:=r,col:=c,wait:=w,pen:=p }.cuF) a=some m:=fun x y=>zak x (zam x h.cu y)
 exact ⟨n h.sc rfl,n h.gr rfl,n h.gl rfl,n h.hi rfl,n h.hl rfl,zai,n h.ma rfl,n h.ch rfl,h.md.imp (fun x=>n x rfl) fun ⟨x,a,b⟩=>⟨x,n a rfl,n b rfl⟩,n h.nm rfl,n h.mo rfl,n h.st rfl,n h.wt rfl,n h.wd rfl,n h.mkr rfl,n h.tb rfl,n h.sp rfl,
  fun l hl=>⟨n (h.ln l hl).o rfl,n (h.ln l hl).cs rfl⟩,h.sep,h.hs,h.nda,h.ndc,h.ms,h.wid,h.rwb,h.cl,h.gn,h.hn,hr,hc⟩
theorem setLa (h:Is H s) (x:Nat):Is (zab H s.sc (.inst 1485 { s with la:=x }.scF)) { s with la:=x }:=by
 have n:∀ {a m},H a=some m→(m.kd == 1488)=false→zab H s.sc (.inst 1485 { s with la:=x }.scF) a=some m:=fun x y=>zak x (zam x h.sc y)
 exact ⟨zai,n h.gr rfl,n h.gl rfl,n h.hi rfl,n h.hl rfl,n h.cu rfl,n h.ma rfl,n h.ch rfl,h.md.imp (fun x=>n x rfl) fun ⟨x,a,b⟩=>⟨x,n a rfl,n b rfl⟩,n h.nm rfl,n h.mo rfl,n h.st rfl,n h.wt rfl,n h.wd rfl,n h.mkr rfl,n h.tb rfl,n h.sp rfl,
  fun l hl=>⟨n (h.ln l hl).o rfl,n (h.ln l hl).cs rfl⟩,h.sep,h.hs,h.nda,h.ndc,h.ms,h.wid,h.rwb,h.cl,h.gn,h.hn,h.rb,h.cb⟩
theorem setMd (h:Is H s) {e:Nat} (h0:H s.md=some (.dict [])) (he:H e=some (.dict [])) (hne:s.md≠e):Is (zab H s.md (.dictB [([66],.ref e)])) s:=by
 have n:∀ {a m},H a=some m→(m.kd == 1)=false→zab H s.md (.dictB [([66],.ref e)]) a=some m:=fun x y=>zak x (zam x h0 y)
 exact ⟨n h.sc rfl,n h.gr rfl,n h.gl rfl,n h.hi rfl,n h.hl rfl,n h.cu rfl,n h.ma rfl,n h.ch rfl,.inr ⟨e,zai,zak he hne.symm⟩,n h.nm rfl,n h.mo rfl,zak h.st h.ms.1.symm,n h.wt rfl,n h.wd rfl,n h.mkr rfl,n h.tb rfl,zak h.sp h.ms.2.symm,
  fun l hl=>⟨n (h.ln l hl).o rfl,n (h.ln l hl).cs rfl⟩,h.sep,h.hs,h.nda,h.ndc,h.ms,h.wid,h.rwb,h.cl,h.gn,h.hn,h.rb,h.cb⟩
end Is
theorem zcW {α β:Type} {f:α→β} {l:List α} {i j:Nat} {x y:α} (h:(l.map f).Nodup) (hi:l[i]?=some x) (hj:l[j]?=some y) (ne:i≠j):f x≠f y:=fun q=>by
 have a:(l.map f)[i]?=some (f x):=by simp [hi]
 have b:(l.map f)[j]?=some (f x):=by simp [hj,q]
 obtain ⟨li,ei⟩:=List.getElem?_eq_some_iff.mp a
 obtain ⟨lj,ej⟩:=List.getElem?_eq_some_iff.mp b
 exact ne ((List.getElem_inj h).mp (ei.trans ej.symm))
noncomputable def Scr.setL (s:Scr) (i:Nat) (l:Ln):Scr:={ s with hist:=s.hist.set i l,grid:=if i < s.hist.length then s.grid else s.grid.set (i - s.hist.length) l }
theorem Scr.all_setL (s:Scr) (i:Nat) (l:Ln):(s.setL i l).all=s.all.set i l:=by
 unfold Scr.setL Scr.all
 simp only
 rw [List.set_append]
 by_cases h:i < s.hist.length
 ·rw [if_pos h,if_pos h]
 ·rw [if_neg h,if_neg h,List.set_eq_of_length_le (by exact zad (.i (.n (.t Va Vb)) (.l Vb Va)) rfl h)]
theorem zbp {α β:Type} {f:α→β} {l:List α} {i:Nat} {x y:α} (h:l[i]?=some x) (e:f y=f x):(l.set i y).map f=l.map f:=by
 rw [List.map_set,e]
 apply List.ext_getElem?
 intro j
 rw [List.getElem?_set]
 split
 ·rename_i q; subst q
  obtain ⟨lt,e⟩:=List.getElem?_eq_some_iff.mp h
  simp [lt,e]
 ·rfl
theorem zd3 {α:Type} {l:List α} {i:Nat} {y z:α} (h:z ∈ l.set i y):z=y∨∃ j,j≠i∧l[j]?=some z:=by
 obtain ⟨j,hj⟩:=List.getElem?_of_mem h
 rw [List.getElem?_set] at hj
 split at hj
 ·split at hj
  ·(injection hj with hj; subst hj); exact .inl rfl
  ·injection hj
 ·rename_i q; exact .inr ⟨j,fun z=>q z.symm,hj⟩
namespace Is
variable {H:Hp} {s:Scr}
theorem refs_setL (h:Is H s) {i:Nat} {l:Ln} {cs:List zaa} {w:Bool} (hi:s.all[i]?=some l) :
  zah (s.setL i { l with cells:=cs,wr:=w }).hist=zah s.hist∧zah (s.setL i { l with cells:=cs,wr:=w }).grid=zah s.grid:=by
 unfold Scr.setL Scr.all at *
 by_cases q:i < s.hist.length
 ·rw [List.getElem?_append_left q] at hi
  refine ⟨zbp hi rfl,?_⟩
  simp only [if_pos q]
 ·rw [List.getElem?_append_right (by exact zad (.i (.n (.t Va Vb)) (.l Vb Va)) rfl q)] at hi
  refine ⟨by simp only; rw [List.set_eq_of_length_le (by exact zad (.i (.n (.t Va Vb)) (.l Vb Va)) rfl q)],?_⟩
  simp only [if_neg q]
  exact zbp hi rfl
theorem put_fix (h:Is H s) {H':Hp} {i:Nat} {l:Ln} {cs:List zaa} {w:Bool} (hi:s.all[i]?=some l) (hcs:cs.length=s.cols)
  (k:∀ a m,H a=some m→m.kd≠254→a≠l.c→H' a=some m) (k2:∀ j y,j≠i→s.all[j]?=some y→H' y.a=H y.a) (hl:zaD H' { l with cells:=cs,wr:=w }):Is H' (s.setL i { l with cells:=cs,wr:=w }):=by
 have hm:l ∈ s.all:=List.mem_of_getElem? hi
 have hc:=(h.ln l hm).cs
 have nk:∀ {a m},H a=some m→(m.kd == 0)=false→m.kd≠254→H' a=some m:=fun x y z=>k _ _ x z (zam x hc y)
 have sep:=h.sep l hm
 simp only [List.mem_cons,List.not_mem_nil,or_false,not_or] at sep
 obtain ⟨e1,e2,e3,e4,e5⟩:=sep
 obtain ⟨r1,r2⟩:=h.refs_setL hi (cs:=cs) (w:=w)
 have g:(s.setL i { l with cells:=cs,wr:=w }).grid.length=s.grid.length:=by have:=congrArg List.length r2; simpa [zah] using this
 have g':(s.setL i { l with cells:=cs,wr:=w }).hist.length=s.hist.length:=by have:=congrArg List.length r1; simpa [zah] using this
 have ea:((s.setL i { l with cells:=cs,wr:=w }).all.map (·.a))=s.all.map (·.a):=by rw [Scr.all_setL]; exact zbp hi rfl
 have ec:((s.setL i { l with cells:=cs,wr:=w }).all.map (·.c))=s.all.map (·.c):=by rw [Scr.all_setL]; exact zbp hi rfl
 have mm:∀ y ∈ (s.setL i { l with cells:=cs,wr:=w }).all,y={ l with cells:=cs,wr:=w }∨∃ j,j≠i∧s.all[j]?=some y:=fun y hy=>by rw [Scr.all_setL] at hy; exact zd3 hy
 refine ⟨nk h.sc rfl (by simp [MO.kd]),nk h.gr rfl (by simp [MO.kd]),?_,nk h.hi rfl (by simp [MO.kd]),?_,nk h.cu rfl (by simp [MO.kd]),nk h.ma rfl (by simp [MO.kd]),nk h.ch rfl (by simp [MO.kd]),h.md.imp (fun x=>nk x rfl (by simp [MO.kd])) fun ⟨x,a,b⟩=>⟨x,nk a rfl (by simp [MO.kd]),nk b rfl (by simp [MO.kd])⟩,k _ _ h.nm (by simp [MO.kd]) (Ne.symm e3),nk h.mo rfl (by simp [MO.kd]),nk h.st rfl (by simp [MO.kd]),nk h.wt rfl (by simp [MO.kd]),k _ _ h.wd (by simp [MO.kd]) (Ne.symm e4),k _ _ h.mkr (by simp [MO.kd]) (Ne.symm e5),nk h.tb rfl (by simp [MO.kd]),nk h.sp rfl (by simp [MO.kd]),
  fun y hy=>?_,fun y hy=>?_,h.hs,by rw [ea]; exact h.nda,by rw [ec]; exact h.ndc,h.ms,fun y hy=>?_,h.rwb,h.cl,g.trans h.gn,by rw [g']; exact h.hn,h.rb,h.cb⟩
 ·rw [r2]; exact k _ _ h.gl (by simp [MO.kd]) (Ne.symm e1)
 ·rw [r1]; exact k _ _ h.hl (by simp [MO.kd]) (Ne.symm e2)
 ·rcases mm y hy with rfl | ⟨j,hj,hy⟩
  ·exact hl
  ·have hmy:y ∈ s.all:=List.mem_of_getElem? hy
   exact ⟨(k2 j y hj hy).trans (h.ln y hmy).o,k _ _ (h.ln y hmy).cs (by simp [MO.kd]) (zcW (f:=fun x:Ln=>x.c) h.ndc hy hi hj)⟩
 ·rcases mm y hy with rfl | ⟨j,hj,hy⟩
  ·exact h.sep l hm
  ·exact h.sep y (List.mem_of_getElem? hy)
 ·rcases mm y hy with rfl | ⟨j,hj,hy⟩
  ·exact hcs
  ·exact h.wid y (List.mem_of_getElem? hy)
theorem setCells (h:Is H s) {i:Nat} {l:Ln} (hi:s.all[i]?=some l) {cs:List zaa} (hcs:cs.length=s.cols):Is (zab H l.c (.list (cs.map zaa.v))) (s.setL i { l with cells:=cs }):=by
 have hl:=h.ln l (List.mem_of_getElem? hi)
 exact h.put_fix (w:=l.wr) hi hcs (fun a m x _ q=>zak x q) (fun j y _ hy=>zao (zam (h.ln y (List.mem_of_getElem? hy)).o hl.cs rfl)) ⟨zak hl.o (zam hl.o hl.cs rfl),zai⟩
theorem setWr (h:Is H s) {i:Nat} {l:Ln} (hi:s.all[i]?=some l) (w:Bool):Is (zab H l.a (.inst 251 (lf l.c w))) (s.setL i { l with wr:=w }):=by
 have hl:=h.ln l (List.mem_of_getElem? hi)
 refine h.put_fix (cs:=l.cells) hi (h.wid l (List.mem_of_getElem? hi)) (fun a m x q _=>zak x fun z=>?_) (fun j y hj hy=>zao (zcW (f:=fun x:Ln=>x.a) h.nda hy hi hj)) ⟨zai,zak hl.cs (zam hl.cs hl.o rfl)⟩
 rw [z,hl.o] at x; (injection x with x; subst x); exact q rfl
theorem foot_setL (h:Is H s) {i:Nat} {l:Ln} {cs:List zaa} {w:Bool} (hi:s.all[i]?=some l):(s.setL i { l with cells:=cs,wr:=w }).foot=s.foot:=by
 unfold Scr.foot
 rw [show (s.setL i { l with cells:=cs,wr:=w }).all.map (·.a)=s.all.map (·.a) by rw [Scr.all_setL]; exact zbp hi rfl,show (s.setL i { l with cells:=cs,wr:=w }).all.map (·.c)=s.all.map (·.c) by rw [Scr.all_setL]; exact zbp hi rfl]
 rfl
end Is
section
variable {W:Wx} {H:Hp} {s:Scr}
theorem zn1 {d:Nat} {k:List I} {st:List V} {ρ:Ro} {Q:Out→Prop} {a b:Array UInt8} (h:Run W d k (.bool (a.toList == b.toList)::st) ρ H Q):Run W d (.cmp .Eq::k) (.bytes b::.bytes a::st) ρ H Q:=
 Run.cmp (R:=is _ H) (OpW.two fun A s K X p q hA hS rx ry=>by
  obtain ⟨t,rfl⟩:=Rep.bytes_iff.mp rx
  obtain ⟨u,rfl⟩:=Rep.bytes_iff.mp ry
  exact richCompare_gives (op:=.Eq) (T:="bytes") rfl rfl FB.slot_bytes_eq FB.entry_bytes_eq (FB.args_bytes_eq_2 _ _) (gives_bytes_eq a b t u) (fun x=>nomatch x) (zax hS (Rep.bool_iff.mpr rfl) ⟨rfl,rfl⟩)) (by rintro _ _ ⟨rfl,rfl⟩; exact h)
theorem zi9 {a:Nat} {lo hi code:Int} (e:H a=some (.list [.tup [.int lo,.int hi]])):zae W 1 (.ref 678) [.ref a,.int code] H (is (.bool (decide (lo≤code) && decide (code≤hi))) H):=by
 refine zl7 _ _ ?_
 unfold zg6
 walk_at "r"
 refine Run.whl (J:=fun n ρ H'=>H'=H∧((n=1∧ρ=[some (.ref a),some (.int code),some (.int 0),some (.int 1),none]) ∨
   (n=0∧((hi < code∧ρ=[some (.ref a),some (.int code),some (.int 1),some (.int 1),some (.int 0)])∨(code≤hi∧ρ=[some (.ref a),some (.int code),some (.int 0),some (.int 0),some (.int 0)])))))
  (B:=fun n ρ H'=>H'=H∧n=1∧ρ=[some (.ref a),some (.int code),some (.int 0),some (.int 1),none])
  (N:=fun ρ H'=>H'=H∧((hi < code∧ρ=[some (.ref a),some (.int code),some (.int 1),some (.int 1),some (.int 0)])∨(code≤hi∧ρ=[some (.ref a),some (.int code),some (.int 0),some (.int 0),some (.int 0)])))
  (Z:=fun _ _=>False) 1 ⟨rfl,.inl ⟨rfl,rfl⟩⟩ ?_ ?_ ?_ (fun _ _ z=>z.elim)
 ·rintro n ρ _ ⟨rfl,⟨rfl,rfl⟩ | ⟨rfl,⟨h,rfl⟩ | ⟨h,rfl⟩⟩⟩
  ·walk_at "r"
   exact Run.nil ⟨rfl,rfl,rfl,rfl⟩
  ·walk_at "r"
   exact Run.nil ⟨rfl,rfl,.inl ⟨h,rfl⟩⟩
  ·walk_at "r"
   exact Run.nil ⟨rfl,rfl,.inr ⟨h,rfl⟩⟩
 ·rintro n ρ _ ⟨rfl,rfl,rfl⟩
  walk_at "r"
  refine zfv (by decide) (by decide +kernel) ?_
  walk_at "r"
  refine zaB e (by decide) (x:=.tup [.int lo,.int hi]) rfl ?_
  walk_at "r"
  by_cases h:hi < code
  ·refine r_t (decide_eq_true h) ?_
   walk_at "c"
   exact Run.nil ⟨0,by exact lin (.t K0 K1) [] rfl,rfl,.inr ⟨rfl,.inl ⟨h,rfl⟩⟩⟩
  ·refine r_f (decide_eq_false h) ?_
   walk_at "c"
   exact Run.nil ⟨0,by exact lin (.t K0 K1) [] rfl,rfl,.inr ⟨rfl,.inr ⟨by lia,rfl⟩⟩⟩
 ·rintro ρ _ ⟨rfl,⟨h,rfl⟩ | ⟨h,rfl⟩⟩
  ·walk_at "r"
   refine Run.ret ⟨?_,rfl⟩
   rw [decide_eq_false (show ¬ code≤hi by lia),Bool.and_false]
  ·walk_at "r"
   refine zaB e (by decide) (x:=.tup [.int lo,.int hi]) rfl ?_
   walk_at "r"
   refine Run.ret ⟨?_,rfl⟩
   rw [decide_eq_true h,Bool.and_true]
noncomputable def wOf (c:Int):Int:=if 768≤c∧c≤879 then 0 else if 19968≤c∧c≤20223 then 2 else 1
theorem zpV (h:Is H s) (c:Int):zae W 2 (.ref 706) [.ref s.wt,.int c] H (is (.int (wOf c)) H):=by
 refine zmb _ _ ?_
 unfold zha
 have h1:=h.wt
 walk_at "r"
 refine zas ((zi9 h.mkr).tu rfl) rfl ?_
 rintro _ _ ⟨rfl,rfl⟩
 walk_at "r"
 by_cases h2:768≤c∧c≤879
 ·refine r_t (by simp [h2]) ?_
  walk_at "c"
  exact Run.ret ⟨by unfold wOf; rw [if_pos h2],rfl⟩
 ·refine r_f (by simp; lia) ?_
  walk_at "c"
  refine zas ((zi9 h.wd).tu rfl) rfl ?_
  rintro _ _ ⟨rfl,rfl⟩
  walk_at "r"
  by_cases h3:19968≤c∧c≤20223
  ·refine r_t (by simp [h3]) ?_
   walk_at "c"
   exact Run.ret ⟨by unfold wOf; rw [if_neg h2,if_pos h3],rfl⟩
  ·refine r_f (by simp; lia) ?_
   walk_at "c"
   exact Run.ret ⟨by unfold wOf; rw [if_neg h2,if_neg h3],rfl⟩
theorem zjb (h:Is H s) (x:Str):zae W 1 (.ref 782) [.ref s.mo,.str x] H (is ((dAt x onL).getD (.bool false)) H):=by
 refine zme _ _ ?_
 unfold zhd
 have h1:=h.mo
 walk_at "r"
 refine ziL h.st ?_
 walk_at "r"
 refine zn0 h.st rfl ?_
 exact Run.ret ⟨rfl,rfl⟩
theorem zpa:zae W 1 (.ref 831) [.bytes #[66]] H fun x H'=>∃ c,x=.ref c∧H c=none∧H'=zab H c (.dict []):=by
 refine zmg _ ?_
 unfold zhf
 walk_at "r"
 refine zn1 ?_
 walk_at "r"
 refine Run.dct0 fun c hc=>?_
 exact Run.ret ⟨c,rfl,hc,rfl⟩
theorem zpR (h:Is H s):zae W 2 (.ref 853) [.ref s.ch,.bytes #[66]] H fun x H'=>∃ c,x=.ref c∧H' c=some (.dict [])∧Is H' s∧Frm s H s H':=by
 refine zmi _ _ ?_
 unfold zhg
 have h1:=h.ch
 walk_at "r"
 rcases h.md with m | ⟨e,m,m'⟩
 ·refine zok m ?_
  walk_at "r"
  refine zav (zpa.tu rfl) rfl ?_
  rintro _ _ ⟨c,rfl,hc,rfl⟩
  have hE:Ext H (zab H c (.dict [])):=Ext.new hc
  have h1':=hE _ _ h1
  have m':=hE _ _ m
  walk_at "r"
  refine znY m' ?_
  have mc:s.md≠c:=zal m hc
  have hI:=(h.ext hE).setMd m' zai mc
  have h2:=hI.ch
  simp only [List.cons_append,List.nil_append]
  walk_at "r"
  refine ziD (zai (f:=zab H c (.dict []))) (x:=.ref c) (by simp [dAt]) ?_
  refine Run.ret ⟨c,rfl,?_,hI,(Frm.ext hE).trans (Frm.set ?_ rfl)⟩
  ·exact zak zai mc.symm
  ·unfold Scr.foot; simp
 ·refine zol m (b:=false) (by simp [dAt]) ?_
  walk_at "r"
  refine ziD m (x:=.ref e) (by simp [dAt]) ?_
  exact Run.ret ⟨e,rfl,m',h,.refl⟩
theorem zpv (h:Is H s) (c:Int):zae W 3 (.ref 910) [.ref s.ch,.int c,.bool false] H fun x H'=>x=.int c∧Is H' s∧Frm s H s H':=by
 refine zml _ _ _ ?_
 unfold zhj
 have h1:=h.ch
 unfold Scr.chF at h1
 walk_at "r"
 refine zaq h1 rfl rfl ?_
 rw [zbE (show H s.ch=some (.inst 920 (zaF 24 .none [(20,.ref s.md),(21,.ref s.nm),(22,.int 0),(23,.int 2),(24,.none)])) from h1)]
 walk_at "r"
 by_cases h0:32≤c
 ·refine r_t (decide_eq_true h0) ?_
  walk_at "c"
  by_cases h2:c≤127
  ·refine r_t (decide_eq_true h2) ?_
   walk_at "c"
   refine zaB h.nm (by decide) (x:=.bytes #[66]) rfl ?_
   refine zas ((zpR h).tu rfl) rfl ?_
   rintro _ H1 ⟨e,rfl,he,hI,hF⟩
   refine ziL he ?_
   walk_at "r"
   refine znZ he ?_
   exact Run.ret ⟨rfl,hI,hF⟩
  ·refine r_f (decide_eq_false h2) ?_
   walk_at "c"
   exact Run.ret ⟨rfl,h,.refl⟩
 ·refine r_f (decide_eq_false h0) ?_
  walk_at "c"
  exact Run.ret ⟨rfl,h,.refl⟩
end
theorem zba {l:List V} {i:Nat} {x:V} (h:l[i]?=some x):at? l (i:Int)=some x:=by unfold at?; rw [if_neg (by exact zag (.n (.T (.c Va) K0)) rfl)]; simpa using h
theorem zbI {ls:List Ln} {i:Nat} {l:Ln} (h:ls[i]?=some l):at? (zah ls) (i:Int)=some (.ref l.a):=zba (by simp [zah,h])
noncomputable def to (s:Scr) (H:Hp) (v:V) (P:Scr→Prop):V→Hp→Prop:=fun x H'=>x=v∧∃ s',Is H' s'∧Frm s H s' H'∧P s'
section
variable {W:Wx} {H:Hp} {s:Scr}
theorem Is.gridAt (h:Is H s) {i:Nat} (hi:i < s.rows):∃ l,s.grid[i]?=some l∧l ∈ s.all:=by
 have:=h.gn
 refine ⟨s.grid[i]'(zaj (.i (.t Va Vb) (.i (.e Vc Vb) (.t Va Vc))) rfl hi this),List.getElem?_eq_getElem (zaj (.i (.t Va Vb) (.i (.e Vc Vb) (.t Va Vc))) rfl hi this),?_⟩
 unfold Scr.all
 exact List.mem_append_right _ (List.getElem_mem _)
theorem zi2 (h:Is H s) {i:Nat} {l:Ln} (hl:s.grid[i]?=some l):zae W 1 (.ref 274) [.ref s.gr,.int i] H (is (.ref l.a) H):=by
 refine zhU _ _ ?_
 unfold zeB
 have h1:=h.gr
 have hi:i < s.rows:=by have:=(List.getElem?_eq_some_iff.mp hl).1; have:=h.gn; lia
 walk_at "r"
 refine zaB h.gl (by have:=h.rwb; exact zad (.i (.t Va Vb) (.i (.A (.l K1 Vb) (.l Vb (.k 4))) (.A (.L (.g (.k 1000)) (.c Va)) (.L (.c Va) (.k 1000))))) rfl hi this) (zbI hl) ?_
 exact Run.ret ⟨rfl,rfl⟩
theorem zc4 (h:Is H s) {l:Ln} (hl:s.grid[s.row]?=some l):zae W 2 (.ref 1235) [.ref s.sc] H (is (.ref l.a) H):=by
 refine zla _ ?_
 unfold zgc
 have h1:=h.sc
 have h2:=h.gr
 have h3:=h.cu
 walk_at "r"
 refine zas ((zi2 h hl).tu rfl) rfl ?_
 rintro _ _ ⟨rfl,rfl⟩
 exact Run.ret ⟨rfl,rfl⟩
theorem zjp (h:Is H s) {i:Nat} (hi:i < s.rows):zae W 2 (.ref 1242) [.ref s.sc,.int i] H (is (.int s.cols) H):=by
 refine zhS _ _ ?_
 unfold zex
 have h1:=h.sc
 have h2:=h.gr
 obtain ⟨l,hl,hm⟩:=h.gridAt hi
 have h3:=(h.ln l hm).o
 unfold lf at h3
 walk_at "r"
 refine zas ((zi2 h hl).tu rfl) rfl ?_
 rintro _ _ ⟨rfl,rfl⟩
 walk_at "r"
 refine ziI (l:=[S "wide",S "top",S "bottom"]) rfl ?_
 walk_at "r"
 exact Run.ret ⟨rfl,rfl⟩
theorem zdA (h:Is H s):zae W 3 (.ref 1249) [.ref s.sc] H (is (.int ((s.cols:Int) - 1)) H):=by
 refine zlb _ ?_
 unfold zgd
 have h1:=h.sc
 have h2:=h.cu
 have h3:=h.ma
 have hc:=h.cb
 have hc2:=h.cl
 walk_at "r"
 refine zas ((zjp h h.rb).tu rfl) rfl ?_
 rintro _ _ ⟨rfl,rfl⟩
 walk_at "r"
 refine r_t (decide_eq_true (zad (.i (.t Va Vb) (.L (.c Va) (.s (.c Vb) K1))) rfl hc)) ?_
 walk_at "c"
 refine Run.ret ⟨?_,rfl⟩
 congr 1; exact zag (.E (.m (.M K0 (.s (.c Va) K1)) (.s (.c Va) K1)) (.s (.c Va) K1)) rfl
theorem zem (h:Is H s):zae W 1 (.ref 1256) [.ref s.sc] H (is (.int 0) H):=by
 refine zlc _ ?_
 unfold zge
 have h1:=h.sc
 have h2:=h.cu
 have h3:=h.ma
 walk_at "r"
 exact Run.ret ⟨rfl,rfl⟩
theorem zo6 (h:Is H s):zae W 1 (.ref 1263) [.ref s.sc] H (is (.bool true) H):=by
 refine zld _ ?_
 unfold zgf
 have h1:=h.sc
 have h2:=h.cu
 have h3:=h.ma
 have hc:=h.cb
 walk_at "r"
 refine Run.ret ⟨?_,rfl⟩
 congr 1; exact decide_eq_true (zad (.i (.t Va Vb) (.L (.c Va) (.s (.c Vb) K1))) rfl hc)
theorem zo3 (h:Is H s):zae W 1 (.ref 1036) [.ref s.ma] H (is (.tup [.int 0,.int 0,.int ((s.rows:Int) - 1),.int ((s.cols:Int) - 1)]) H):=by
 refine zhR _ ?_
 unfold zew
 have h3:=h.ma
 walk_at "r"
 exact Run.ret ⟨rfl,rfl⟩
theorem zeO {H:Hp} {n:Nat} {a b c d:Int}:Dat H (n+1) (.tup [.int a,.int b,.int c,.int d]) (.tuple [.int a,.int b,.int c,.int d]):=.tup (.cons .int (.cons .int (.cons .int (.cons .int .nil))))
theorem zel (h:Is H s):zae W 3 (.ref 1375) [.ref s.sc] H (is .none H):=by
 refine zlo _ ?_
 unfold zgq
 have h1:=h.sc
 have h2:=h.cu
 walk_at "r"
 refine zas ((zjp h h.rb).tu rfl) rfl ?_
 rintro _ _ ⟨rfl,rfl⟩
 walk_at "r"
 have e:min (s.col:Int) (max 0 ((s.cols:Int) - 1))=s.col:=by have:=h.cb; exact zad (.i (.t Va Vb) (.E (.m (.c Va) (.M K0 (.s (.c Vb) K1))) (.c Va))) rfl this
 rw [e]
 refine zaq h2 rfl rfl ?_
 exact Run.nil ⟨rfl,zbE (a:=s.cu) h2⟩
theorem zpw (h:Is H s):zae W 2 (.ref 1312) [.ref s.sc] H (is (.bool false) H):=by
 refine zli _ ?_
 unfold zgk
 have h1:=h.sc
 have h2:=h.cu
 have h3:=h.ma
 have hc:=h.cb
 have hc2:=h.cl
 walk_at "r"
 refine r_t (decide_eq_true (zad (.i (.t Va Vb) (.L (.c Va) (.s (.c Vb) K1))) rfl hc)) ?_
 walk_at "c"
 refine zav ((zem h).tu rfl) rfl ?_
 rintro _ _ ⟨rfl,rfl⟩
 walk_at "r"
 refine Run.ret ⟨?_,rfl⟩
 congr 1; exact decide_eq_false (zag (.i (.A (.l K2 Va) (.l Va (.k 7))) (.n (.T (.s (.s (.c Va) K1) K0) K1))) rfl hc2)
theorem zcs (s:Scr):s.cu ∈ s.foot:=by unfold Scr.foot; simp
theorem ze3 (s:Scr):s.sc ∈ s.foot:=by unfold Scr.foot; simp
theorem zkU (s:Scr):s.gr ∈ s.foot:=by unfold Scr.foot; simp
theorem zkV (s:Scr):s.hl ∈ s.foot:=by unfold Scr.foot; simp
theorem zhN {s:Scr} {l:Ln} (h:l ∈ s.all):l.a ∈ s.foot:=by unfold Scr.foot; exact List.mem_append_right _ (List.mem_append_left _ (List.mem_map_of_mem h))
theorem zhO {s:Scr} {l:Ln} (h:l ∈ s.all):l.c ∈ s.foot:=by unfold Scr.foot; exact List.mem_append_right _ (List.mem_append_right _ (List.mem_map_of_mem h))
noncomputable def Scr.adv (s:Scr) (c w:Nat):Scr:=if s.cols≤c+w then { s with col:=s.cols - 1,wait:=true } else { s with col:=c+w,wait:=false }
theorem zo0 (h:Is H s) (c w:Nat):zae W 4 (.ref 1326) [.ref s.sc,.int c,.int w] H fun x H'=>x=.none∧Is H' (s.adv c w)∧Frm s H (s.adv c w) H':=by
 refine zlk _ _ _ ?_
 unfold zgm
 have h1:=h.sc
 have h2:=h.cu
 have hc2:=h.cl
 walk_at "r"
 refine zav ((zdA h).tu rfl) rfl ?_
 rintro _ _ ⟨rfl,rfl⟩
 walk_at "r"
 unfold Scr.adv
 by_cases q:s.cols≤c+w
 ·rw [if_pos q]
  refine r_t (decide_eq_true (zaj (.i (.l Va (.a Vb Vc)) (.T (.s (.c Va) K1) (.a (.c Vb) (.c Vc)))) rfl q)) ?_
  walk_at "c"
  have e:((s.cols:Int) - 1)=((s.cols - 1:Nat):Int):=by exact zag (.i (.A (.l K2 Va) (.l Va (.k 7))) (.E (.s (.c Va) K1) (.c (.s Va K1)))) rfl hc2
  rw [e]
  refine zaq h2 rfl rfl ?_
  have h1':=zak h1 (zam h1 h2 rfl) (m':=.inst 976 (zaF 12 (.int ((s.cols - 1:Nat):Int)) [(11,.int s.row),(12,.int s.col),(13,.bool s.wait),(25,pn s.pen),(26,.bool false),(27,.bool false)]))
  walk_at "r"
  refine zaq zai rfl rfl ?_
  rw [zaC]
  exact Run.nil ⟨rfl,h.setCu s.row (s.cols - 1) true s.pen h.rb (zag (.i (.A (.l K2 Va) (.l Va (.k 7))) (.t (.s Va K1) Va)) rfl hc2),Frm.set (zcs s) rfl⟩
 ·rw [if_neg q]
  refine r_f (decide_eq_false (zaj (.i (.n (.l Va (.a Vb Vc))) (.n (.T (.s (.c Va) K1) (.a (.c Vb) (.c Vc))))) rfl q)) ?_
  walk_at "c"
  have e:((c:Int)+(w:Int))=((c+w:Nat):Int):=by exact zad (.E (.a (.c Va) (.c Vb)) (.c (.a Va Vb))) rfl
  rw [e]
  refine zaq h2 rfl rfl ?_
  have h1':=zak h1 (zam h1 h2 rfl) (m':=.inst 976 (zaF 12 (.int ((c+w:Nat):Int)) [(11,.int s.row),(12,.int s.col),(13,.bool s.wait),(25,pn s.pen),(26,.bool false),(27,.bool false)]))
  walk_at "r"
  refine zaq zai rfl rfl ?_
  rw [zaC]
  exact Run.nil ⟨rfl,h.setCu s.row (c+w) false s.pen h.rb (zaj (.i (.n (.l Va (.a Vb Vc))) (.t (.a Vb Vc) Va)) rfl q),Frm.set (zcs s) rfl⟩
theorem zo8 (h:Is H s):zae W 4 (.ref 1382) [.ref s.sc] H fun x H'=>x=.none∧Is H' { s with col:=0,wait:=false }∧Frm s H { s with col:=0,wait:=false } H':=by
 refine zlp _ ?_
 unfold zgr
 have h1:=h.sc
 have h2:=h.cu
 have hc2:=h.cl
 walk_at "r"
 refine zav ((zem h).tu rfl) rfl ?_
 rintro _ _ ⟨rfl,rfl⟩
 walk_at "r"
 refine zaq h2 rfl rfl ?_
 have h1':=zak h1 (zam h1 h2 rfl) (m':=.inst 976 (zaF 12 (.int 0) [(11,.int s.row),(12,.int s.col),(13,.bool s.wait),(25,pn s.pen),(26,.bool false),(27,.bool false)]))
 walk_at "r"
 refine zaq zai rfl rfl ?_
 rw [zaC]
 have hI:=h.setCu s.row 0 false s.pen h.rb (zag (.i (.A (.l K2 Va) (.l Va (.k 7))) (.t K0 Va)) rfl hc2)
 have h3:=hI.sc
 walk_at "r"
 refine zav ((zel hI).tu rfl) rfl ?_
 rintro _ _ ⟨rfl,rfl⟩
 walk_at "r"
 exact Run.nil ⟨rfl,hI,Frm.set (zcs s) rfl⟩
end
structure zb1 (n cols:Nat) (H:Hp) (ls:List Ln) (H':Hp):Prop where
 len:ls.length=n
 at_:∀ l ∈ ls,zaD H' l
 fr:∀ l ∈ ls,H l.a=none∧H l.c=none
 cs:∀ l ∈ ls,l.cells=List.replicate cols zar∧l.wr=false
 nda:(ls.map (·.a)).Nodup
 ndc:(ls.map (·.c)).Nodup
 ext:Ext H H'
theorem zb1.nil {cols:Nat} {H:Hp}:zb1 0 cols H [] H:=⟨rfl,by simp,by simp,by simp,by simp,by simp,.rfl⟩
theorem zb1.snoc {n cols:Nat} {H H1 H2:Hp} {ls:List Ln} {l:Ln} (h:zb1 n cols H ls H1) (a:H1 l.a=none) (c:H1 l.c=none) (hl:zaD H2 l) (cs:l.cells=List.replicate cols zar) (w:l.wr=false) (e:Ext H1 H2):zb1 (n+1) cols H (ls++[l]) H2:=by
 have zaE:∀ b,H1 b=none→H b=none:=fun b q=>by
  induction z:H b with
  | none=>rfl
  | some m=>rw [h.ext _ _ z] at q; injection q
 refine ⟨by simp [h.len],fun y hy=>?_,fun y hy=>?_,fun y hy=>?_,?_,?_,h.ext.trans e⟩
 ·rcases List.mem_append.mp hy with hy | hy
  ·exact (h.at_ y hy).ext e
  ·rw [List.mem_singleton.mp hy]; exact hl
 ·rcases List.mem_append.mp hy with hy | hy
  ·exact h.fr y hy
  ·rw [List.mem_singleton.mp hy]; exact ⟨zaE _ a,zaE _ c⟩
 ·rcases List.mem_append.mp hy with hy | hy
  ·exact h.cs y hy
  ·rw [List.mem_singleton.mp hy]; exact ⟨cs,w⟩
 ·rw [List.map_append,List.nodup_append]
  refine ⟨h.nda,by simp,fun x hx y hy=>?_⟩
  obtain ⟨z,hz,rfl⟩:=List.mem_map.mp hx
  simp only [List.map_cons,List.map_nil,List.mem_singleton] at hy
  subst hy
  exact zal (h.at_ z hz).o a
 ·rw [List.map_append,List.nodup_append]
  refine ⟨h.ndc,by simp,fun x hx y hy=>?_⟩
  obtain ⟨z,hz,rfl⟩:=List.mem_map.mp hx
  simp only [List.map_cons,List.map_nil,List.mem_singleton] at hy
  subst hy
  exact zal (h.at_ z hz).cs c
theorem zb1.ext' {n cols:Nat} {H H1 H2:Hp} {ls:List Ln} (h:zb1 n cols H ls H1) (e:Ext H1 H2):zb1 n cols H ls H2:=⟨h.len,fun l hl=>(h.at_ l hl).ext e,h.fr,h.cs,h.nda,h.ndc,h.ext.trans e⟩
noncomputable def Scr.rolled (s:Scr) (gl':Nat) (last nl:Ln):Scr:=
 { s with gl:=gl',hist:=(s.all.set (s.all.length - 1) { last with wr:=false }++[nl]).take (s.hist.length+1),grid:=(s.all.set (s.all.length - 1) { last with wr:=false }++[nl]).drop (s.hist.length+1) }
theorem Scr.all_rolled {s:Scr} {gl':Nat} {last nl:Ln}:(s.rolled gl' last nl).all=s.all.set (s.all.length - 1) { last with wr:=false }++[nl]:=by
 unfold Scr.rolled Scr.all
 exact List.take_append_drop _ _
theorem zfw (l:List Ln) (n:Nat):zah (l.take n)=(zah l).take n:=by unfold zah; rw [List.map_take]
theorem zei (l:List Ln) (n:Nat):zah (l.drop n)=(zah l).drop n:=by unfold zah; rw [List.map_drop]
theorem zb9 (l m:List Ln):zah (l++m)=zah l++zah m:=by unfold zah; rw [List.map_append]
theorem Is.rolled {H H':Hp} {s:Scr} (h:Is H s) {gl':Nat} {last nl:Ln} (hl:s.all[s.all.length - 1]?=some last)
  (k:∀ a m,H a=some m→a≠s.gr→a≠s.hl→a≠last.a→H' a=some m) (hgr:H' s.gr=some (.inst 396 (s.rolled gl' last nl).grF)) (hgl:H' gl'=some (.list ((zah s.all++[V.ref nl.a]).drop (s.hist.length+1))))
  (hhl:H' s.hl=some (.list ((zah s.all++[V.ref nl.a]).take (s.hist.length+1)))) (hla:H' last.a=some (.inst 251 (lf last.c false))) (hnl:zaD H' nl) (f1:H gl'=none) (f2:H nl.a=none) (f3:H nl.c=none) (f4:gl'≠nl.c)
  (hcs:nl.cells=List.replicate s.cols zar) (hn:s.hist.length+1≤300):Is H' (s.rolled gl' last nl):=by
 have hm:last ∈ s.all:=List.mem_of_getElem? hl
 have lo:=(h.ln last hm).o
 have n:∀ {a m},H a=some m→(m.kd == 399)=false→(m.kd == 254)=false→a≠s.hl→H' a=some m:=fun x y z q=>k _ _ x (zam x h.gr y) q (zam x lo z)
 have n':∀ {a m},H a=some m→(m.kd == 399)=false→(m.kd == 254)=false→(m.kd == 0)=false→H' a=some m:=fun x y z q=>n x y z (zam x h.hl q)
 have hs:=h.hs
 simp only [List.mem_cons,List.not_mem_nil,or_false,not_or] at hs
 have er:zah (s.rolled gl' last nl).all=zah s.all++[V.ref nl.a]:=by
  rw [Scr.all_rolled,zb9]
  exact congrArg (·++_) (zbp hl rfl)
 have len:s.all.length=s.hist.length+s.rows:=by unfold Scr.all; rw [List.length_append,h.gn]
 have eg:zah (s.rolled gl' last nl).grid=(zah s.all++[V.ref nl.a]).drop (s.hist.length+1):=by
  rw [← er,Scr.all_rolled]; exact zei _ _
 have eh:zah (s.rolled gl' last nl).hist=(zah s.all++[V.ref nl.a]).take (s.hist.length+1):=by
  rw [← er,Scr.all_rolled]; exact zfw _ _
 have ea:((s.rolled gl' last nl).all.map (·.a))=s.all.map (·.a)++[nl.a]:=by
  rw [Scr.all_rolled,List.map_append]; exact congrArg (·++_) (zbp hl rfl)
 have ec:((s.rolled gl' last nl).all.map (·.c))=s.all.map (·.c)++[nl.c]:=by
  rw [Scr.all_rolled,List.map_append]; exact congrArg (·++_) (zbp hl rfl)
 have mm:∀ y ∈ (s.rolled gl' last nl).all,y=nl∨y={ last with wr:=false }∨∃ j,j≠s.all.length - 1∧s.all[j]?=some y:=fun y hy=>by
  rw [Scr.all_rolled] at hy
  rcases List.mem_append.mp hy with hy | hy
  ·exact .inr (zd3 hy)
  ·exact .inl (List.mem_singleton.mp hy)
 have ln':∀ y ∈ s.all,H' y.c=some (.list (y.cells.map zaa.v)):=fun y hy=>by
  have:=h.sep y hy
  simp only [List.mem_cons,List.not_mem_nil,or_false,not_or] at this
  exact n (h.ln y hy).cs rfl rfl this.2.1
 refine ⟨n' h.sc rfl rfl rfl,hgr,by rw [eg]; exact hgl,n' h.hi rfl rfl rfl,by rw [eh]; exact hhl,n' h.cu rfl rfl rfl,n' h.ma rfl rfl rfl,n' h.ch rfl rfl rfl,h.md.imp (fun x=>n' x rfl rfl rfl) fun ⟨x,a,b⟩=>⟨x,n' a rfl rfl rfl,n' b rfl rfl rfl⟩,
  n h.nm rfl rfl (Ne.symm hs.2.1),n' h.mo rfl rfl rfl,n' h.st rfl rfl rfl,n' h.wt rfl rfl rfl,n h.wd rfl rfl (Ne.symm hs.2.2.1),n h.mkr rfl rfl (Ne.symm hs.2.2.2),n' h.tb rfl rfl rfl,n' h.sp rfl rfl rfl,
  fun y hy=>?_,fun y hy=>?_,?_,?_,?_,h.ms,fun y hy=>?_,h.rwb,h.cl,?_,?_,h.rb,h.cb⟩
 ·rcases mm y hy with rfl | rfl | ⟨j,hj,hy⟩
  ·exact hnl
  ·exact ⟨hla,ln' last hm⟩
  ·have hmy:y ∈ s.all:=List.mem_of_getElem? hy
   exact ⟨k _ _ (h.ln y hmy).o (zam (h.ln y hmy).o h.gr rfl) (zam (h.ln y hmy).o h.hl rfl) (zcW (f:=fun x:Ln=>x.a) h.nda hy hl hj),ln' y hmy⟩
 ·show y.c ∉ [gl',s.hl,s.nm,s.wd,s.mkr]
  have old:∀ y ∈ s.all,y.c ∉ [gl',s.hl,s.nm,s.wd,s.mkr]:=fun y hy=>by
   have:=h.sep y hy
   simp only [List.mem_cons,List.not_mem_nil,or_false,not_or] at this ⊢
   exact ⟨zal (h.ln y hy).cs f1,this.2⟩
  rcases mm y hy with rfl | rfl | ⟨j,hj,hy⟩
  ·simp only [List.mem_cons,List.not_mem_nil,or_false,not_or]
   exact ⟨f4.symm,(zal h.hl f3).symm,(zal h.nm f3).symm,(zal h.wd f3).symm,(zal h.mkr f3).symm⟩
  ·exact old last hm
  ·exact old y (List.mem_of_getElem? hy)
 ·show s.hl ∉ [gl',s.nm,s.wd,s.mkr]
  simp only [List.mem_cons,List.not_mem_nil,or_false,not_or]
  exact ⟨zal h.hl f1,hs.2⟩
 ·rw [ea,List.nodup_append]
  refine ⟨h.nda,by simp,fun x hx y hy=>?_⟩
  obtain ⟨z,hz,rfl⟩:=List.mem_map.mp hx
  rw [List.mem_singleton.mp hy]
  exact zal (h.ln z hz).o f2
 ·rw [ec,List.nodup_append]
  refine ⟨h.ndc,by simp,fun x hx y hy=>?_⟩
  obtain ⟨z,hz,rfl⟩:=List.mem_map.mp hx
  rw [List.mem_singleton.mp hy]
  exact zal (h.ln z hz).cs f3
 ·rcases mm y hy with rfl | rfl | ⟨j,hj,hy⟩
  ·rw [hcs]; simp [Scr.rolled]
  ·exact h.wid last hm
  ·exact h.wid y (List.mem_of_getElem? hy)
 ·show ((s.all.set (s.all.length - 1) { last with wr:=false }++[nl]).drop (s.hist.length+1)).length=s.rows
  simp only [List.length_drop,List.length_append,List.length_set,List.length_singleton]; exact zaj (.i (.e Va (.a Vb Vc)) (.e (.s (.a Va K1) (.a Vb K1)) Vc)) rfl len
 ·show ((s.all.set (s.all.length - 1) { last with wr:=false }++[nl]).take (s.hist.length+1)).length≤300
  simp only [List.length_take]; exact zad (.i (.l (.a Va K1) (.k 300)) (.l (.m (.a Va K1) Vb) (.k 300))) rfl hn
theorem Is.foot_rolled {H:Hp} {s:Scr} {gl':Nat} {last nl:Ln} (hl:s.all[s.all.length - 1]?=some last) (f2:H nl.a=none) (f3:H nl.c=none):∀ a ∈ (s.rolled gl' last nl).foot,a ∈ s.foot∨H a=none:=by
 have ea:((s.rolled gl' last nl).all.map (·.a))=s.all.map (·.a)++[nl.a]:=by
  rw [Scr.all_rolled,List.map_append]; exact congrArg (·++_) (zbp hl rfl)
 have ec:((s.rolled gl' last nl).all.map (·.c))=s.all.map (·.c)++[nl.c]:=by
  rw [Scr.all_rolled,List.map_append]; exact congrArg (·++_) (zbp hl rfl)
 intro a ha
 unfold Scr.foot at ha ⊢
 rw [ea,ec] at ha
 simp only [List.mem_append,List.mem_singleton] at ha ⊢
 rcases ha with ha | (ha | ha) | (ha | ha)
 ·exact .inl (.inl ha)
 ·exact .inl (.inr (.inl ha))
 ·rw [ha]; exact .inr f2
 ·exact .inl (.inr (.inr ha))
 ·rw [ha]; exact .inr f3
section
variable {W:Wx} {H:Hp} {s:Scr}
theorem zn2 {d:Nat} {k:List I} {st:List V} {ρ:Ro} {Q:Out→Prop} {a b:Addr} {l l':List V} (e:H a=some (.list l)) (e':H b=some (.list l')) (ne:l.length≠l'.length) (h:Run W d k (.bool false::st) ρ H Q):Run W d (.cmp .Eq::k) (.ref b::.ref a::st) ρ H Q:=
 Run.cmp (R:=is (.bool false) H) (OpW.two fun A s K X p q hA hS rx ry=>by
  obtain rfl:=Rep.ref_iff.mp rx
  obtain rfl:=Rep.ref_iff.mp ry
  obtain ⟨vs,n,e1,r⟩:=hS.list e
  obtain ⟨vs',n',e1',r'⟩:=hS.list e'
  have hs:=zaX r
  have hs':=zaX r'
  exact SeqAt.eq_list_lengthsAt (za2 e1) (za2 e1') (by simp [hs,hs',ne]) (by have:=hA.units; unfold cLine; exact zad (.i (.l (.a Va Vb) (.k 9000)) (.t Va (.k 9900))) rfl this) (zax hS (Rep.bool_iff.mpr rfl) ⟨rfl,rfl⟩)) (by rintro _ _ ⟨rfl,rfl⟩; exact h)
theorem zi8 {hi hl a:Nat} {l:List V} (e:H hi=some (.inst 478 [(6,.int 400),(5,.ref hl),(7,.int 0)])) (e2:H hl=some (.list l)) (hn:l.length+1≤400):zae W 1 (.ref 442) [.ref hi,.ref a] H (is .none (zab H hl (.list (l++[.ref a])))):=by
 refine zlL _ _ ?_
 unfold zgK
 walk_at "r"
 refine zbl e2 ?_
 walk_at "r"
 refine zbe e2 (zag (.i (.l (.a Va K1) (.k 400)) (.l Va (.k 1000000))) rfl hn) ?_
 have e':=zak e (zam e e2 rfl) (m':=.list (l++[.ref a]))
 have e2':zab H hl (.list (l++[.ref a])) hl=some (.list (l++[.ref a])):=zai
 walk_at "r"
 refine r_t (decide_eq_true (by simp; exact zag (.i (.l (.a Va K1) (.k 400)) (.L (.a (.c Va) K1) (.k 400))) rfl hn)) ?_
 walk_at "c"
 exact Run.ret ⟨rfl,rfl⟩
inductive PFr (cols:Nat) (H:Hp) (x:V) (H':Hp):Prop
 | mk (c:Nat) (l:Ln) (e:x=.ref c) (f:H c=none) (g:H' c=some (.list [.ref l.a])) (N:zb1 1 cols H [l] H')
inductive JNl (cols:Nat) (H:Hp) (i:Nat) (acc:List V) (H':Hp):Prop
 | mk (ls:List Ln) (e:acc=zah ls) (N:zb1 i cols H ls H')
theorem zpg {g gl:Nat} {rows cols k:Nat} (e:H g=some (.inst 396 [(3,.int rows),(4,.int cols),(5,.ref gl)])) (hc:cols≤7):zae W 6 (.ref 293) [.ref g,.int 1,pn k] H (PFr cols H):=by
 refine zlH _ _ _ ?_
 unfold zeC
 refine Run.has (by intro j hj; simp at hj; rcases hj with rfl | rfl <;> exact ⟨_,rfl⟩) ?_
 walk_at "r"
 refine Run.lc (l:=[.int 0]) (J:=JNl cols H) (args:=[.int 1]) rfl rfl ⟨[],rfl,.nil⟩ (fun i acc H' _ _=>⟨by exact lin (.L (.g (.k 1000)) K1) [] rfl,by exact lin (.L K1 (.k 1000)) [] rfl,rfl⟩) (by simp) (fun i x acc H' hx hac hj=>?_) (fun acc H' hac hj a ha=>?_)
 ·obtain ⟨ls,rfl,hN⟩:=hj
  have e':=hN.ext _ _ e
  have:x=.int 0:=by cases i with | zero=>simpa using hx.symm | succ i=>simp at hx
  subst this
  show Run W 5 _ [.int 0] [none,some (pn k),some (.ref g)] H' _
  walk_at "c"
  refine zas ((zfG cols k (zag (.i (.l Va (.k 7)) (.l Va (.k 1000))) rfl hc)).tu rfl) rfl ?_
  rintro _ H2 ⟨l,rfl,f1,f2,hl,hcs,hw,hE⟩
  refine Run.nil ⟨ls++[l],by rw [zb9]; rfl,hN.snoc f1 f2 hl hcs hw hE⟩
 ·obtain ⟨ls,rfl,hN⟩:=hj
  obtain ⟨l,rfl⟩:∃ l,ls=[l]:=by
   have:=hN.len
   match ls,this with
   | [l],_=>exact ⟨l,rfl⟩
  have ha':H a=none:=by
   induction z:H a with
   | none=>rfl
   | some m=>rw [hN.ext _ _ z] at ha; injection ha
  exact Run.ret ⟨a,l,rfl,ha',zai,hN.ext' (Ext.new ha)⟩
end
theorem zat {v:V} {H:Hp} {P:V→Hp→Prop} (h:P v H):∀ x H',is v H x H'→P x H':=by rintro _ _ ⟨rfl,rfl⟩; exact h
section
variable {W:Wx} {d:Nat} {H:Hp} {k:List I} {st:List V} {ρ:Ro} {Q:Out→Prop}
noncomputable abbrev zb0 (W:Wx) (d:Nat) (k:List I) (st:List V) (ρ:Ro) (Q:Out→Prop) (l:List V) (H:Hp):Prop:=∀ c H',H c=none→H' c=some (.list l)→Ext H H'→Run W d k (.ref c::st) ρ H' Q
theorem zbD {a:Addr} {l:List V} {u v:V} (lo hi:Option Int) (hu:u=zbA lo) (hv:v=zbA hi) (e:H a=some (.list l)) (hl:l.length≤1000000) {l':List V} (q:zbq l lo hi=l') (h:zb0 W d k st ρ Q l' H):Run W d (.slc::k) (v::u::.ref a::st) ρ H Q:=
 zoo hu hv e hl fun c hc=>by rw [q]; exact h c _ hc zai (Ext.new hc)
theorem zdu {a b:Addr} {l l':List V} (e:H a=some (.list l)) (e':H b=some (.list l')) (hl:l.length+l'.length≤1000000) (h:zb0 W d k st ρ Q (l++l') H):Run W d (.bin .Add::k) (.ref b::.ref a::st) ρ H Q:=
 znV e e' hl fun c hc=>h c _ hc zai (Ext.new hc)
theorem ziO {a:Addr} {x:V} {i:Int} (e:H a=some (.list [x])) (hl:-1000≤i∧i≤1000) (h:zb0 W d k st ρ Q (List.replicate i.toNat x) H):Run W d (.bin .Mult::k) (.int i::.ref a::st) ρ H Q:=
 ziN e hl fun c hc=>h c _ hc zai (Ext.new hc)
theorem zef {a:Addr} {l:List V} (e:H a=some (.list l)) (hl:l.length≤1000000) (h:zb0 W d k st ρ Q l H):Run W d (.call 1::k) (.ref a::.raw (.type "list")::st) ρ H Q:=
 zn8 e hl fun c hc=>h c _ hc zai (Ext.new hc)
theorem ziJ {l:List V} (hl:l.length≤1000000) (h:zb0 W d k st ρ Q l H):Run W d (.call 1::k) (.tup l::.raw (.type "list")::st) ρ H Q:=
 zn9 hl fun c hc=>h c _ hc zai (Ext.new hc)
theorem zbk (h:zb0 W d k st ρ Q [] H):Run W d (.lst 0::k) st ρ H Q:=zc1 fun c hc=>h c _ hc zai (Ext.new hc)
theorem zdw {a:V} (h:zb0 W d k st ρ Q [a] H):Run W d (.lst 1::k) (a::st) ρ H Q:=ziK fun c hc=>h c _ hc zai (Ext.new hc)
theorem zob {a b:V} (h:zb0 W d k st ρ Q [a,b] H):Run W d (.lst 2::k) (b::a::st) ρ H Q:=zoa fun c hc=>h c _ hc zai (Ext.new hc)
theorem zeg {a b e:V} (h:zb0 W d k st ρ Q [a,b,e] H):Run W d (.lst 3::k) (e::b::a::st) ρ H Q:=zoc fun c hc=>h c _ hc zai (Ext.new hc)
theorem zoq {a:Addr} (e:H a=some (.dict [])) (h:zb0 W d k st ρ Q [] H):Run W d (.call 1::k) (.ref a::.raw (.builtin "sorted")::st) ρ H Q:=zop e fun c hc=>h c _ hc zai (Ext.new hc)
end
theorem zcZ (l:List V) (b:Nat):zbq l none (some (b:Int))=l.take b:=by
 unfold zbq
 simp only [Option.elim,clipAt_nat,List.drop_zero,Nat.sub_zero]
 by_cases h:b≤l.length
 ·rw [Nat.min_eq_left h]
 ·rw [Nat.min_eq_right (by exact zad (.i (.n (.l Va Vb)) (.l Vb Va)) rfl h),List.take_of_length_le (Nat.le_refl _),List.take_of_length_le (by exact zad (.i (.n (.l Va Vb)) (.l Vb Va)) rfl h)]
theorem ziz (l:List V) (a:Nat):zbq l (some (a:Int)) none=l.drop a:=by
 unfold zbq
 simp only [Option.elim,clipAt_nat]
 by_cases h:a≤l.length
 ·rw [Nat.min_eq_left h,List.take_of_length_le (by simp)]
 ·rw [Nat.min_eq_right (by exact zad (.i (.n (.l Va Vb)) (.l Vb Va)) rfl h),List.drop_of_length_le (Nat.le_refl _),List.drop_of_length_le (by exact zad (.i (.n (.l Va Vb)) (.l Vb Va)) rfl h)]; simp
theorem zea (l:List V) (a b:Nat):zbq l (some (a:Int)) (some (b:Int))=(l.drop a).take (b - a):=by
 unfold zbq
 simp only [Option.elim,clipAt_nat]
 by_cases h:a≤l.length
 ·rw [Nat.min_eq_left h]
  by_cases h2:b≤l.length
  ·rw [Nat.min_eq_left h2]
  ·rw [Nat.min_eq_right (by exact zad (.i (.n (.l Va Vb)) (.l Vb Va)) rfl h2),List.take_of_length_le (by simp),List.take_of_length_le (by simp; exact zaj (.i (.n (.l Va Vb)) (.l Vb (.a (.s Va Vc) Vc))) rfl h2)]
 ·rw [Nat.min_eq_right (a:=a) (by exact zad (.i (.n (.l Va Vb)) (.l Vb Va)) rfl h),List.drop_of_length_le (Nat.le_refl _),List.drop_of_length_le (i:=a) (by exact zad (.i (.n (.l Va Vb)) (.l Vb Va)) rfl h)]; simp
theorem znO (l:List V):zbq l none (some (-1))=l.take (l.length - 1):=by
 unfold zbq
 simp only [Option.elim,List.drop_zero,Nat.sub_zero]
 congr 1
 unfold clipAt
 simp only [show ((-1:Int) < 0)=True by simp,if_true]
 exact zag (.e (.t (.M K0 (.m (.a (.g K1) (.c Va)) (.c Va)))) (.s Va K1)) rfl
section
variable {W:Wx} {H:Hp} {s:Scr}
theorem zi4 {g:Nat}:zae W 1 (.ref 300) [.ref g,.int 0] H (is .none H):=by
 refine zhV _ _ ?_
 unfold zeD
 walk_at "r"
 exact Run.nil ⟨rfl,rfl⟩
theorem zoZ {g gl c:Nat} {w:Bool} {i a:Nat} {fs:List V} {rows cols:Int} (e:H g=some (.inst 396 [(3,.int rows),(4,.int cols),(5,.ref gl)])) (e2:H gl=some (.list fs)) (hi:fs[i]?=some (.ref a)) (hb:i≤900) (e3:H a=some (.inst 251 (lf c w))) :
  zae W 1 (.ref 300) [.ref g,.int ((i:Int)+1)] H (is .none (zab H a (.inst 251 (lf c false)))):=by
 refine zhV _ _ ?_
 unfold zeD
 unfold lf at e3
 walk_at "r"
 refine r_t (decide_eq_true (zag (.T K0 (.a (.c Va) K1)) rfl)) ?_
 walk_at "c"
 rw [show (i:Int)+1 - 1=(i:Int) by exact zag (.E (.s (.a (.c Va) K1) K1) (.c Va)) rfl]
 refine zaB e2 (zag (.i (.l Va (.k 900)) (.A (.L (.g (.k 1000)) (.c Va)) (.L (.c Va) (.k 1000)))) rfl hb) (zba hi) ?_
 refine zaq e3 rfl rfl ?_
 exact Run.nil ⟨rfl,rfl⟩
theorem zpo {g gl:Nat} {rows cols:Int} (e:H g=some (.inst 396 [(3,.int rows),(4,.int cols),(5,.ref gl)])) {b:Int}:zae W 1 (.ref 288) [.ref g,.tup [.int 0,.int 0,.int b,.int (cols - 1)]] H (is (.bool true) H):=by
 refine zlG _ _ ?_
 unfold zgG
 walk_at "r"
 refine Run.ret ⟨?_,rfl⟩
 simp
structure zjK (s:Scr) (last:Ln) (c gl':Nat) (nl:Ln) (H H':Hp):Prop where
 gone:H' c=some (.list ((zah s.grid).take 1))
 keep:∀ a m,H a=some m→a≠s.gr→a≠last.a→H' a=some m
 gr:H' s.gr=some (.inst 396 [(3,.int s.rows),(4,.int s.cols),(5,.ref gl')])
 gl:H' gl'=some (.list ((zah s.grid).drop 1++[.ref nl.a]))
 la:H' last.a=some (.inst 251 (lf last.c false))
 nln:zaD H' nl
 f1:H gl'=none
 f2:H nl.a=none
 f3:H nl.c=none
 f4:gl'≠nl.c
 cs:nl.cells=List.replicate s.cols zar
 wr:nl.wr=false
 f0:H c=none
theorem zaE {H H':Hp} (e:Ext H H') {a:Addr} (h:H' a=none):H a=none:=by
 induction z:H a with
 | none=>rfl
 | some m=>rw [e _ _ z] at h; injection h
inductive zfQ (s:Scr) (last:Ln) (H:Hp) (x:V) (H':Hp):Prop
 | mk (c gl':Nat) (nl:Ln) (e:x=.ref c) (r:zjK s last c gl' nl H H')
theorem zpl (h:Is H s) {last:Ln} (hl:s.grid[s.rows - 1]?=some last) (k:Nat):zae W 7 (.ref 307) [.ref s.gr,.tup [.int 0,.int 0,.int ((s.rows:Int) - 1),.int ((s.cols:Int) - 1)],.int 1,pn k] H (zfQ s last H):=by
 refine zlI _ _ _ _ ?_
 unfold zgH
 have hr:=h.rwb
 have hcl:=h.cl
 have hgn:=h.gn
 have h1:=h.gr
 unfold Scr.grF at h1
 have hm:last ∈ s.all:=by unfold Scr.all; exact List.mem_append_right _ (List.mem_of_getElem? hl)
 have lo:=(h.ln last hm).o
 have hlen:(zah s.grid).length=s.rows:=by simp [zah,hgn]
 walk_at "r"
 refine za0 ((zfE _ _ _).tu rfl) rfl ?_
 refine zat ?_
 rw [show max (0:Int) (min 1 ((s.rows:Int) - 1 - 0+1))=1 by exact zag (.i (.A (.l K1 Va) (.l Va (.k 4))) (.E (.M K0 (.m K1 (.a (.s (.s (.c Va) K1) K0) K1))) K1)) rfl hr]
 walk_at "r"
 refine zas ((zpo h1).tu rfl) rfl ?_
 refine zat ?_
 walk_at "r"
 refine zbD (some 0) (some (0+1)) rfl rfl h.gl (zad (.i (.A (.l K1 Va) (.l Va (.k 4))) (.i (.e Vb Va) (.l Vb (.k 1000000)))) rfl hr hlen) (zea _ 0 1) fun c1 H1 f1 g1 E1=>?_
 have a1:=E1 _ _ h1
 walk_at "r"
 refine zbD (some (0+1)) (some ((s.rows:Int) - 1+1)) rfl rfl (E1 _ _ h.gl) (zad (.i (.A (.l K1 Va) (.l Va (.k 4))) (.i (.e Vb Va) (.l Vb (.k 1000000)))) rfl hr hlen) (l':=(zah s.grid).drop 1) (by
  rw [show (s.rows:Int) - 1+1=((s.rows:Nat):Int) by exact zag (.E (.a (.s (.c Va) K1) K1) (.c Va)) rfl]
  refine (zea _ 1 _).trans ?_
  rw [List.take_of_length_le (by simp; exact zad (.i (.e Va Vb) (.l Va (.a (.s Vb K1) K1))) rfl hlen)]) fun c2 H2 f2 g2 E2=>?_
 walk_at "r"
 refine zbk fun c3 H3 f3 g3 E3=>?_
 have E13:=E2.trans E3
 have rest:∀ {H4:Hp} {e:Bool} {st':List V} (_:H4 c1=some (.list ((zah s.grid).take 1))) (_:H4 c2=some (.list ((zah s.grid).drop 1))) (_:∀ a m,H a=some m→a≠last.a→H4 a=some m) (_:∃ w,H4 last.a=some (.inst 251 (lf last.c w))∧(s.rows=1→w=false)) (_:∀ a,H4 a=none→H a=none),
   Run W 6 [I.loc 0,.attr 5,.lit .none,Y4,.slc,Y10,.bin .Add,Y0,.mth 5,Y2,Y3,.call 3,.bin .Add,Y0,.attr 5,Y6,(iI 1),.bin .Add,.lit .none,.slc,.bin .Add,Y0,.sattr 5,Y0,.mth 6,Y4,.call 2,.pop,Y0,.mth 6,Y6,(iI 1),.bin .Add,Y2,.bin .Sub,.call 2,.pop,Y9,.ret] []
    [some (.ref s.gr),some (.tup [.int 0,.int 0,.int ((s.rows:Int) - 1),.int ((s.cols:Int) - 1)]),some (.int 1),some (pn k),some (.int 0),some (.int 0),some (.int ((s.rows:Int) - 1)),some (.int ((s.cols:Int) - 1)),none,some (.ref c1),some (.ref c2)] H4
    (zan (zfQ s last H)):=by
  intro H4 e st' q1 q2 q3 q4 q5
  obtain ⟨w,q4,q6⟩:=q4
  have ag:=q3 _ _ h1 (zam h1 lo rfl)
  have al:=q3 _ _ h.gl (zam h.gl lo rfl)
  walk_at "r"
  refine zbD none (some 0) rfl rfl al (zad (.i (.A (.l K1 Va) (.l Va (.k 4))) (.i (.e Vb Va) (.l Vb (.k 1000000)))) rfl hr hlen) (zcZ _ 0) fun c5 H5 f5 g5 E5=>?_
  rw [List.take_zero] at g5
  have q2':=E5 _ _ q2
  walk_at "r"
  refine zdu g5 q2' (by simp; exact zad (.i (.A (.l K1 Va) (.l Va (.k 4))) (.i (.e Vb Va) (.l Vb (.k 1000001)))) rfl hr hlen) fun c6 H6 f6 g6 E6=>?_
  rw [List.nil_append] at g6
  have E46:=E5.trans E6
  have ag':=E46 _ _ ag
  walk_at "r"
  refine za0 ((zpg ag' hcl.2).tu rfl) rfl ?_
  rintro _ H7 ⟨c7,nl,rfl,f7,g7,N7⟩
  have g6':=N7.ext _ _ g6
  refine zdu g6' g7 (by simp; exact zad (.i (.A (.l K1 Va) (.l Va (.k 4))) (.i (.e Vb Va) (.l Vb (.k 1000000)))) rfl hr hlen) fun c8 H8 f8 g8 E8=>?_
  have E48:=(E46.trans N7.ext).trans E8
  have ag8:=E48 _ _ ag
  have al8:=E48 _ _ al
  walk_at "r"
  refine zbD (some ((s.rows:Int) - 1+1)) none rfl rfl al8 (zad (.i (.A (.l K1 Va) (.l Va (.k 4))) (.i (.e Vb Va) (.l Vb (.k 1000000)))) rfl hr hlen) (l':=[]) (by
   rw [show (s.rows:Int) - 1+1=((s.rows:Nat):Int) by exact zag (.E (.a (.s (.c Va) K1) K1) (.c Va)) rfl]
   refine (ziz _ _).trans ?_
   rw [List.drop_of_length_le (by exact zad (.i (.e Va Vb) (.l Va Vb)) rfl hlen)]) fun c9 H9 f9 g9 E9=>?_
  refine zdu (E9 _ _ g8) g9 (by simp; exact zad (.i (.A (.l K1 Va) (.l Va (.k 4))) (.i (.e Vb Va) (.l Vb (.k 1000000)))) rfl hr hlen) fun gl' HA fA gA EA=>?_
  rw [List.append_nil] at gA
  have E4A:=(E48.trans E9).trans EA
  have agA:=E4A _ _ ag
  walk_at "r"
  refine zaq agA rfl rfl ?_
  have nl7:=N7.at_ nl (by simp)
  have nlA:=(nl7.ext (E8.trans E9)).ext EA
  have cN:=N7.fr nl (by simp)
  have fgl:H gl'=none:=q5 _ (zaE (E48.trans E9) fA)
  have fa:H nl.a=none:=q5 _ (zaE E46 cN.1)
  have fc:H nl.c=none:=q5 _ (zaE E46 cN.2)
  have f4:gl'≠nl.c:=(zal ((nl7.ext (E8.trans E9)).cs) fA).symm
  have hgr0:s.gr≠last.a:=zam h1 lo rfl
  have laA:=E4A _ _ q4
  have la':=zak laA hgr0.symm (m':=.inst 396 (zaF 5 (.ref gl') [(3,.int s.rows),(4,.int s.cols),(5,.ref s.gl)]))
  have gr':zab HA s.gr (.inst 396 (zaF 5 (.ref gl') [(3,.int s.rows),(4,.int s.cols),(5,.ref s.gl)])) s.gr=some (.inst 396 [(3,.int s.rows),(4,.int s.cols),(5,.ref gl')]):=zai
  have gl2:=zak gA (zam gA agA rfl) (m':=.inst 396 (zaF 5 (.ref gl') [(3,.int s.rows),(4,.int s.cols),(5,.ref s.gl)]))
  have go2:=zak (E4A _ _ q1) (zam (E4A _ _ q1) agA rfl) (m':=.inst 396 (zaF 5 (.ref gl') [(3,.int s.rows),(4,.int s.cols),(5,.ref s.gl)]))
  have nl2:zaD (zab HA s.gr (.inst 396 (zaF 5 (.ref gl') [(3,.int s.rows),(4,.int s.cols),(5,.ref s.gl)]))) nl:=⟨zak nlA.o (zam nlA.o agA rfl),zak nlA.cs (zam nlA.cs agA rfl)⟩
  have kp:∀ a m,H a=some m→a≠s.gr→a≠last.a→zab HA s.gr (.inst 396 (zaF 5 (.ref gl') [(3,.int s.rows),(4,.int s.cols),(5,.ref s.gl)])) a=some m:=fun a m z z1 z2=>zak (E4A _ _ (q3 a m z z2)) z1
  generalize zab HA s.gr (.inst 396 (zaF 5 (.ref gl') [(3,.int s.rows),(4,.int s.cols),(5,.ref s.gl)]))=HB at *
  walk_at "r"
  refine zas (zi4.tu rfl) rfl ?_
  refine zat ?_
  walk_at "r"
  by_cases one:s.rows=1
  ·rw [show (s.rows:Int) - 1+1 - 1=0 by exact zag (.i (.e Va K1) (.E (.s (.a (.s (.c Va) K1) K1) K1) K0)) rfl one]
   refine zas (zi4.tu rfl) rfl ?_
   refine zat ?_
   walk_at "r"
   rw [q6 one] at la'
   exact Run.ret ⟨c1,gl',nl,rfl,go2,kp,gr',gl2,la',nl2,fgl,fa,fc,f4,(N7.cs nl (by simp)).1,(N7.cs nl (by simp)).2,f1⟩
  ·have hi:((zah s.grid).drop 1++[V.ref nl.a])[s.rows - 2]?=some (V.ref last.a):=by
    rw [List.getElem?_append_left (by simp; exact zad (.i (.A (.l K1 Va) (.l Va (.k 4))) (.i (.e Vb Va) (.i (.n (.e Va K1)) (.t (.s Va K2) (.s Vb K1))))) rfl hr hlen one),List.getElem?_drop,show 1+(s.rows - 2)=s.rows - 1 by exact zag (.i (.A (.l K1 Va) (.l Va (.k 4))) (.i (.n (.e Va K1)) (.e (.a K1 (.s Va K2)) (.s Va K1)))) rfl hr one]
    simp [zah,hl]
   rw [show (s.rows:Int) - 1+1 - 1=((s.rows - 2:Nat):Int)+1 by exact zag (.i (.A (.l K1 Va) (.l Va (.k 4))) (.i (.n (.e Va K1)) (.E (.s (.a (.s (.c Va) K1) K1) K1) (.a (.c (.s Va K2)) K1)))) rfl hr one]
   refine zas ((zoZ gr' gl2 hi (zag (.i (.A (.l K1 Va) (.l Va (.k 4))) (.l (.s Va K2) (.k 900))) rfl hr) la').tu rfl) rfl ?_
   refine zat ?_
   walk_at "r"
   have na:∀ {a m},HB a=some m→(m.kd == 254)=false→zab HB last.a (.inst 251 (lf last.c false)) a=some m:=fun x y=>zak x (zam x la' y)
   have nne:nl.a≠last.a:=(zal lo fa).symm
   exact Run.ret ⟨c1,gl',nl,rfl,na go2 rfl,fun a m z z1 z2=>zak (kp a m z z1 z2) z2,na gr' rfl,na gl2 rfl,zai,⟨zak nl2.o nne,na nl2.cs rfl⟩,fgl,fa,fc,f4,(N7.cs nl (by simp)).1,(N7.cs nl (by simp)).2,f1⟩
 have EH3:=E1.trans E13
 have b3:∀ a,H3 a=none→H a=none:=fun a q=>zaE EH3 q
 by_cases one:s.rows=1
 ·have hd:(zah s.grid).drop 1=[]:=List.drop_of_length_le (zad (.i (.e Va Vb) (.i (.e Vb K1) (.l Va K1))) rfl hlen one)
  have g2':H3 c2=some (.list []):=by rw [← hd]; exact E3 _ _ g2
  refine zc0 (n:=2) (m:=2) (.list g2' .nil) (.list g3 .nil) (lin (.l K2 (.k 60)) [] rfl) (lin (.l K2 (.k 60)) [] rfl) (b:=true) (by decide +kernel) ?_
  walk_at "r"
  have hi:(zah s.grid).take 1=[V.ref last.a]:=by
   have:s.grid[0]?=some last:=by rw [← hl,one]
   rw [show zah s.grid=s.grid.map fun x=>V.ref x.a from rfl]
   match hg:s.grid,this with
   | l::_,e=>simp at e; subst e; simp
  have g1':=E13 _ _ g1
  refine zaB g1' (by decide) (x:=.ref last.a) (by show at? ((zah s.grid).take 1) _=_; rw [hi]; rfl) ?_
  have lo3:=EH3 _ _ lo
  refine zaq lo3 rfl rfl ?_
  have n3:∀ {a m},H3 a=some m→(m.kd == 254)=false→zab H3 last.a (.inst 251 (lf last.c false)) a=some m:=fun x y=>zak x (zam x lo3 y)
  refine rest (e:=true) (st':=[]) (n3 g1' rfl) (n3 (E3 _ _ g2) rfl) (fun a m z q=>zak (EH3 _ _ z) q) ⟨false,zai,fun _=>rfl⟩ fun a q=>b3 a ?_
  unfold zab at q; split at q; · injection q
  ·exact q
 ·refine zn2 (E3 _ _ g2) g3 (by simp; exact zad (.i (.A (.l K1 Va) (.l Va (.k 4))) (.i (.e Vb Va) (.i (.n (.e Va K1)) (.n (.e (.s Vb K1) K0))))) rfl hr hlen one) ?_
  refine Run.chk (r_f rfl ?_)
  rw [List.nil_append]
  exact rest (e:=true) (st':=[]) (E13 _ _ g1) (E3 _ _ g2) (fun a m z _=>EH3 _ _ z) ⟨_,EH3 _ _ lo,fun q=>absurd q one⟩ b3
end
noncomputable def Scr.lv (s:Scr):List (List zaa × Bool):=s.all.map fun l=>(l.cells,l.wr)
structure zcm (s s':Scr):Prop where
 sc:s'.sc=s.sc
 rows:s'.rows=s.rows
 cols:s'.cols=s.cols
 pen:s'.pen=s.pen
theorem zfp (k:Nat):(pn k).hand=true:=by unfold pn; split <;> rfl
theorem zcm.refl {s:Scr}:zcm s s:=⟨rfl,rfl,rfl,rfl⟩
structure zdF (w:Option Bool) (s s':Scr):Prop where
 same:zcm s s'
 wait:s'.wait=false
 a:s.row+1 < s.rows→s'.hist.length=s.hist.length∧s'.row=s.row+1∧s'.lv=match w with | none=>s.lv | some b=>s.lv.modify (s.hist.length+s.row) fun p=>(p.1,b)
 b:s.row+1=s.rows→s'.hist.length=s.hist.length+1∧s'.row=s.row∧s'.lv=(s.lv.modify (s.hist.length+s.row) fun p=>(p.1,w.getD false))++[(List.replicate s.cols zar,false)]
section
variable {W:Wx} {H:Hp} {s:Scr}
theorem Is.len (h:Is H s):s.all.length=s.hist.length+s.rows:=by unfold Scr.all; rw [List.length_append,h.gn]
theorem Is.rowAt (h:Is H s):∃ l,s.grid[s.row]?=some l∧s.all[s.hist.length+s.row]?=some l:=by
 obtain ⟨l,hl,_⟩:=h.gridAt h.rb
 refine ⟨l,hl,?_⟩
 unfold Scr.all
 rw [List.getElem?_append_right (by exact zad (.l Va (.a Va Vb)) rfl),Nat.add_sub_cancel_left]; exact hl
theorem zo4 (h3:H s.ma=some (.inst 1109 s.maF)):zae W 1 (.ref 1036) [.ref s.ma] H (is (.tup [.int 0,.int 0,.int ((s.rows:Int) - 1),.int ((s.cols:Int) - 1)]) H):=by
 refine zhR _ ?_
 unfold zew
 walk_at "r"
 exact Run.ret ⟨rfl,rfl⟩
theorem zpU (h1:H s.sc=some (.inst 1485 s.scF)) (h3:H s.ma=some (.inst 1109 s.maF)):zae W 2 (.ref 1270) [.ref s.sc] H (is (.bool true) H):=by
 refine zle _ ?_
 unfold zgg
 have h4:=h3
 walk_at "r"
 refine zav ((zo4 h3).tu rfl) rfl ?_
 refine zat ?_
 walk_at "r"
 refine zc0 (n:=1) (m:=1) zeO zeO (lin (.l K1 (.k 60)) [] rfl) (lin (.l K1 (.k 60)) [] rfl) (Dat.eqv_self (H:=fun _=>none) (n:=1) zeO) ?_
 exact Run.ret ⟨rfl,rfl⟩
inductive PScr (s:Scr) (last:Ln) (H:Hp) (x:V) (H':Hp):Prop
 | mk (e:x=.none) (gl':Nat) (nl:Ln) (I:Is H' (s.rolled gl' last nl)) (F:Frm s H (s.rolled gl' last nl) H') (c:nl.cells=List.replicate s.cols zar) (w:nl.wr=false)
theorem zpQ (h:Is H s) {last:Ln} (hl:s.grid[s.rows - 1]?=some last) (hn:s.hist.length+1≤300):zae W 8 (.ref 1347) [.ref s.sc,.int 1] H (PScr s last H):=by
 refine zlm _ _ ?_
 unfold zgo
 have h1:=h.sc
 have h2:=h.cu
 have h4:=h.gr
 have h5:=h.ma
 have hp:=zfp s.pen
 have hr:=h.rwb
 have hgn:=h.gn
 walk_at "r"
 refine zav ((zo3 h).tu rfl) rfl ?_
 refine zat ?_
 walk_at "r"
 refine zec ((zpl h hl s.pen).tu rfl) rfl ?_
 rintro _ H1 ⟨c,gl',nl,rfl,R⟩
 have hm:last ∈ s.all:=by unfold Scr.all; exact List.mem_append_right _ (List.mem_of_getElem? hl)
 have lo:=(h.ln last hm).o
 have n:∀ {a m},H a=some m→(m.kd == 399)=false→(m.kd == 254)=false→H1 a=some m:=fun x y z=>R.keep _ _ x (zam x h.gr y) (zam x lo z)
 have i1:=n h1 rfl rfl
 have i2:=n h.ma rfl rfl
 have i3:=n h.hi rfl rfl
 have i4:=n h.hl rfl rfl
 have cne:c≠s.hl:=(zal h.hl R.f0).symm
 unfold Scr.hiF at i3
 walk_at "r"
 refine zav ((zpU (n h.sc rfl rfl) i2).tu rfl) rfl ?_
 refine zat ?_
 walk_at "r"
 obtain ⟨g0,hg0⟩:∃ g0,s.grid[0]?=some g0:=⟨_,List.getElem?_eq_getElem (show 0 < s.grid.length by exact zad (.i (.A (.l K1 Va) (.l Va (.k 4))) (.i (.e Vb Va) (.t K0 Vb))) rfl hr hgn)⟩
 have t1:(zah s.grid).take 1=[V.ref g0.a]:=by
  rw [show zah s.grid=s.grid.map fun x=>V.ref x.a from rfl]
  match hg:s.grid,hg0 with
  | l::_,e=>simp at e; subst e; simp
 have go:=R.gone
 rw [t1] at go
 have len:=h.len
 have hla:s.all[s.all.length - 1]?=some last:=by
  rw [len]; unfold Scr.all
  rw [List.getElem?_append_right (by exact zad (.i (.A (.l K1 Va) (.l Va (.k 4))) (.l Vb (.s (.a Vb Va) K1))) rfl hr),show s.hist.length+s.rows - 1 - s.hist.length=s.rows - 1 by exact zad (.e (.s (.s (.a Va Vb) K1) Va) (.s Vb K1)) rfl]; exact hl
 have ra:zah s.all=zah s.hist++zah s.grid:=zb9 _ _
 have rl:(zah s.hist).length=s.hist.length:=by simp [zah]
 have rg:(zah s.grid).length=s.rows:=by simp [zah,hgn]
 refine Run.fr (l:=[.ref g0.a]) (args:=[.ref c]) (J:=fun i ρ H'=>ρ[0]?=some (some (.ref s.sc))∧ρ.length=4∧((i=0∧H'=H1)∨(i=1∧H'=zab H1 s.hl (.list (zah s.hist++[.ref g0.a]))))) (Z:=fun _ _=>False) rfl rfl ⟨rfl,rfl,.inl ⟨rfl,rfl⟩⟩ ?_ ?_ ?_ (fun _ _ z=>z.elim)
 ·rintro i ρ H' _ ⟨_,_,⟨rfl,rfl⟩ | ⟨rfl,rfl⟩⟩
  ·exact go
  ·exact zak go cne
 ·rintro i x ρ H' hx ⟨h0,h3,⟨rfl,rfl⟩ | ⟨rfl,rfl⟩⟩
  ·have:x=.ref g0.a:=by simpa using hx.symm
   subst this
   obtain ⟨p0,p1,p2,p3,rfl⟩:∃ p0 p1 p2 p3,ρ=[p0,p1,p2,p3]:=by
    match ρ,h3 with
    | [p0,p1,p2,p3],_=>exact ⟨_,_,_,_,rfl⟩
   simp at h0; subst h0
   walk_at "c"
   refine zas ((zi8 i3 i4 (by rw [rl]; exact zag (.i (.l (.a Va K1) (.k 300)) (.l (.a Va K1) (.k 400))) rfl hn)).tu rfl) rfl ?_
   refine zat ?_
   walk_at "r"
   exact Run.nil ⟨rfl,rfl,.inr ⟨by simp,rfl⟩⟩
  ·simp at hx
 ·rintro ρ H' ⟨h0,h3,⟨hh,rfl⟩ | ⟨_,rfl⟩⟩
  ·simp at hh
  ·have hs:=h.hs
   simp only [List.mem_cons,List.not_mem_nil,or_false,not_or] at hs
   have nh:∀ {a m},H1 a=some m→a≠s.hl→zab H1 s.hl (.list (zah s.hist++[.ref g0.a])) a=some m:=fun x y=>zak x y
   have nlh:nl.c≠s.hl:=(zal h.hl R.f3).symm
   have hI:Is (zab H1 s.hl (.list (zah s.hist++[.ref g0.a]))) (s.rolled gl' last nl):=by
    refine h.rolled hla (fun a m x y z q=>nh (R.keep a m x y q) z) (nh R.gr (zam R.gr i4 rfl)) ?_ ?_ (nh R.la (zam R.la i4 rfl)) ⟨nh R.nln.o (zam R.nln.o i4 rfl),nh R.nln.cs nlh⟩ R.f1 R.f2 R.f3 R.f4 R.cs hn
    ·rw [ra,List.append_assoc,List.drop_append,rl,List.drop_of_length_le (by exact zad (.i (.e Va Vb) (.l Va (.a Vb K1))) rfl rl),List.nil_append,show s.hist.length+1 - s.hist.length=1 by exact zag (.e (.s (.a Va K1) Va) K1) rfl,List.drop_append,rg,show 1 - s.rows=0 by exact zag (.i (.A (.l K1 Va) (.l Va (.k 4))) (.e (.s K1 Va) K0)) rfl hr,List.drop_zero]
     exact nh R.gl (zal h.hl R.f1).symm
    ·rw [ra,List.append_assoc,List.take_append,rl,List.take_of_length_le (by exact zad (.i (.e Va Vb) (.l Va (.a Vb K1))) rfl rl),show s.hist.length+1 - s.hist.length=1 by exact zag (.e (.s (.a Va K1) Va) K1) rfl,List.take_append,rg,show 1 - s.rows=0 by exact zag (.i (.A (.l K1 Va) (.l Va (.k 4))) (.e (.s K1 Va) K0)) rfl hr,List.take_zero,List.append_nil,t1]
     exact zai
   refine Run.nil ⟨rfl,gl',nl,hI,⟨fun a m x z=>nh (R.keep a m x (fun q=>z (q ▸ zkU s)) (fun q=>z (q ▸ zhN hm))) (fun q=>z (q ▸ zkV s)),Is.foot_rolled hla R.f2 R.f3⟩,R.cs,R.wr⟩
end
theorem zfg {s:Scr} {i:Nat} {l:Ln} {cs:List zaa} {w:Bool} (_:s.all[i]?=some l):(s.setL i { l with cells:=cs,wr:=w }).lv=s.lv.set i (cs,w):=by
 unfold Scr.lv; rw [Scr.all_setL,List.map_set]
theorem zij {α:Type} {l:List α} {i:Nat} {x:α} (f:α→α) (h:l[i]?=some x):l.modify i f=l.set i (f x):=by
 apply List.ext_getElem?
 intro j
 have lt:=(List.getElem?_eq_some_iff.mp h).1
 rw [List.getElem?_modify,List.getElem?_set]
 by_cases q:i=j
 ·subst q; rw [h]; simp [lt]
 ·rcases l[j]? with _ | _ <;> simp [q]
theorem zmI {α:Type} {l m:List α} {i:Nat} (f:α→α) (h:i < l.length):(l++m).modify i f=l.modify i f++m:=by
 apply List.ext_getElem?
 intro j
 rw [List.getElem?_modify]
 by_cases q:j < l.length
 ·rw [List.getElem?_append_left q,List.getElem?_append_left (by simpa using q),List.getElem?_modify]
 ·rw [List.getElem?_append_right (by exact zad (.i (.n (.t Va Vb)) (.l Vb Va)) rfl q),List.getElem?_append_right (by simpa using q)]
  simp [show i≠j by exact zaj (.i (.t Va Vb) (.i (.n (.t Vc Vb)) (.n (.e Va Vc)))) rfl h q]
theorem zmJ {α:Type} {l:List α} {i:Nat} (f g:α→α):(l.modify i f).modify i g=l.modify i (g ∘ f):=by
 apply List.ext_getElem?
 intro j
 rw [List.getElem?_modify,List.getElem?_modify,List.getElem?_modify]
 by_cases q:i=j
 ·rcases l[j]? with _ | _ <;> simp [q]
 ·rcases l[j]? with _ | _ <;> simp [q]
theorem zmF {s:Scr} {gl':Nat} {last nl:Ln} (hl:s.all[s.all.length - 1]?=some last):(s.rolled gl' last nl).lv=s.lv.modify (s.all.length - 1) (fun p=>(p.1,false))++[(nl.cells,nl.wr)]:=by
 unfold Scr.lv
 rw [Scr.all_rolled,List.map_append,List.map_set,zij _ (x:=(last.cells,last.wr)) (by simp [hl])]
 rfl
noncomputable def Scr.cuTo (s:Scr) (r c:Nat) (w:Bool) (p:Nat):Scr:={ s with row:=r,col:=c,wait:=w,pen:=p }
section
variable {W:Wx} {H:Hp} {s:Scr}
inductive PIdx (s:Scr) (H:Hp) (x:V) (H':Hp):Prop
 | mk (e:x=.none) (s':Scr) (I:Is H' s') (F:Frm s H s' H') (c:s'.col=s.col) (N:zdF none s s') (l l':Ln) (h1:s.all[s.hist.length+s.row]?=some l) (h2:s'.all[s.hist.length+s.row]?=some l') (h3:l'.a=l.a)
inductive PNx (o:Option Bool) (s:Scr) (H:Hp) (x:V) (H':Hp):Prop
 | mk (e:x=.none) (s':Scr) (I:Is H' s') (F:Frm s H s' H') (c:s'.col=0) (N:zdF o s s')
theorem zja (h:Is H s) (hn:s.hist.length+1≤300):zae W 9 (.ref 1361) [.ref s.sc] H (PIdx s H):=by
 refine zln _ ?_
 unfold zgp
 have h1:=h.sc
 have h2:=h.cu
 have h5:=h.ma
 unfold Scr.scF at h1
 unfold Scr.cuF at h2
 unfold Scr.maF at h5
 have hr:=h.rwb
 have hb:=h.rb
 walk_at "r"
 refine zaq h2 rfl rfl ?_
 obtain ⟨l,hl,hla⟩:=h.rowAt
 have len:=h.len
 obtain ⟨s0,hs0⟩:∃ s0,s0=s.cuTo s.row s.col false s.pen:=⟨_,rfl⟩
 have I1:Is (zab H s.cu (.inst 976 s0.cuF)) s0:=by rw [hs0]; exact h.setCu s.row s.col false s.pen h.rb h.cb
 have F1:Frm s H s0 (zab H s.cu (.inst 976 s0.cuF)):=by rw [hs0]; exact Frm.set (zcs s) rfl
 rw [show zaF 13 (V.bool false) [(11,V.int s.row),(12,.int s.col),(13,.bool s.wait),(25,pn s.pen),(26,.bool false),(27,.bool false)]=s0.cuF by rw [hs0]; rfl]
 generalize zab H s.cu (.inst 976 s0.cuF)=H1 at *
 have e1:s0.sc=s.sc:=by rw [hs0]; rfl
 have e2:s0.row=s.row:=by rw [hs0]; rfl
 have e3:s0.rows=s.rows:=by rw [hs0]; rfl
 have e4:s0.hist=s.hist:=by rw [hs0]; rfl
 have e5:s0.all=s.all:=by rw [hs0]; rfl
 have e6:s0.wait=false:=by rw [hs0]; rfl
 have e7:s0.col=s.col:=by rw [hs0]; rfl
 have e8:s0.cols=s.cols:=by rw [hs0]; rfl
 have e9:s0.pen=s.pen:=by rw [hs0]; rfl
 have e10:s0.grid=s.grid:=by rw [hs0]; rfl
 have e11:s0.lv=s.lv:=by rw [hs0]; rfl
 have hb0:=I1.rb
 have hc0:=I1.cb
 clear hs0
 have j1:=I1.sc
 have j2:=I1.cu
 have j5:=I1.ma
 unfold Scr.scF at j1
 unfold Scr.cuF at j2
 unfold Scr.maF at j5
 rw [e1] at j1
 walk_at "r"
 by_cases q:s.row+1=s.rows
 ·refine r_t (by simp; exact zaG (.i (.e Va Vb) (.i (.e Vc Vd) (.i (.e (.a Vb K1) Vd) (.E (.c Va) (.s (.c Vc) K1))))) rfl e2 e3 q) ?_
  walk_at "c"
  refine zav ((show zae W 1 (.ref 1263) [.ref s.sc] H1 (is (.bool true) H1) by rw [← e1]; exact zo6 I1).tu rfl) rfl ?_
  refine zat ?_
  walk_at "r"
  have e:s.hist.length+s.row=s.all.length - 1:=by exact zaG (.i (.e Va (.a Vb Vc)) (.i (.e (.a Vd K1) Vc) (.e (.a Vb Vd) (.s Va K1)))) rfl len q
  have hl':s0.grid[s0.rows - 1]?=some l:=by rw [e10,e3,show s.rows - 1=s.row by exact zad (.i (.e (.a Va K1) Vb) (.e (.s Vb K1) Va)) rfl q]; exact hl
  refine zas ((show zae W 8 (.ref 1347) [.ref s.sc,.int 1] H1 (PScr s0 l H1) by rw [← e1]; exact zpQ I1 hl' (by rw [e4]; exact hn)).tu rfl) rfl ?_
  rintro _ H2 ⟨rfl,gl',nl,I2,F2,hcs,hw⟩
  have k1:=I2.sc
  unfold Scr.scF at k1
  rw [show (s0.rolled gl' l nl).sc=s.sc from e1] at k1
  walk_at "r"
  refine zav ((show zae W 3 (.ref 1375) [.ref s.sc] H2 (is .none H2) by have z:=zel (W:=W) I2; rw [show (s0.rolled gl' l nl).sc=s.sc from e1] at z; exact z).tu rfl) rfl ?_
  refine zat ?_
  walk_at "r"
  have hla':s0.all[s0.all.length - 1]?=some l:=by rw [e5,← e]; exact hla
  refine Run.nil ⟨rfl,_,I2,F1.trans F2,e7,⟨⟨e1,e3,e8,e9⟩,e6,fun z=>by lia,fun _=>⟨?_,e2,?_⟩⟩,l,{ l with wr:=false },hla,?_,rfl⟩
  ·have:=I2.len
   have g:(s0.rolled gl' l nl).all.length=s.all.length+1:=by rw [Scr.all_rolled,e5]; simp
   have r:(s0.rolled gl' l nl).rows=s.rows:=e3
   exact zbO (.i (.e Va (.a Vb Vc)) (.i (.e Vd (.a Ve Vf)) (.i (.e Vd (.a Va K1)) (.i (.e Vf Vc) (.e Ve (.a Vb K1)))))) rfl len this g r
  ·rw [zmF hla',hcs,hw,e,e11,e5,e8]; rfl
  ·rw [Scr.all_rolled,e5,List.getElem?_append_left (by simp; exact zaG (.i (.t Va Vb) (.i (.e Vc (.a Vd Vb)) (.t (.a Vd Va) Vc))) rfl hb len),List.getElem?_set,if_pos e.symm,if_pos (by exact zaj (.i (.A (.l K1 Va) (.l Va (.k 4))) (.i (.e Vb (.a Vc Va)) (.t (.s Vb K1) Vb))) rfl hr len)]
 ·refine r_f (by simp; exact zaG (.i (.e Va Vb) (.i (.e Vc Vd) (.i (.n (.e (.a Vb K1) Vd)) (.n (.E (.c Va) (.s (.c Vc) K1)))))) rfl e2 e3 q) ?_
  walk_at "c"
  refine r_t (decide_eq_true (zaG (.i (.t Va Vb) (.i (.e Vc Va) (.i (.e Vd Vb) (.i (.n (.e (.a Va K1) Vb)) (.T (.c Vc) (.s (.c Vd) K1)))))) rfl hb e2 e3 q)) ?_
  walk_at "c"
  rw [show (s0.row:Int)+1=((s0.row+1:Nat):Int) from rfl]
  refine zaq j2 rfl rfl ?_
  have I2:=I1.setCu (s0.row+1) s0.col s0.wait s0.pen (zaG (.i (.t Va Vb) (.i (.e Vc Va) (.i (.e Vd Vb) (.i (.n (.e (.a Va K1) Vb)) (.t (.a Vc K1) Vd))))) rfl hb e2 e3 q) hc0
  have F2:Frm s0 H1 (s0.cuTo (s0.row+1) s0.col s0.wait s0.pen) (zab H1 s0.cu (.inst 976 (s0.cuTo (s0.row+1) s0.col s0.wait s0.pen).cuF)):=Frm.set (zcs s0) rfl
  have k1:=I2.sc
  unfold Scr.scF at k1
  rw [show ({ s0 with row:=s0.row+1,col:=s0.col,wait:=s0.wait,pen:=s0.pen }:Scr).sc=s.sc from e1] at k1
  walk_at "r"
  refine zav ((show zae W 3 (.ref 1375) [.ref s.sc] _ (is .none _) by have z:=zel (W:=W) I2; rw [show ({ s0 with row:=s0.row+1,col:=s0.col,wait:=s0.wait,pen:=s0.pen }:Scr).sc=s.sc from e1] at z; exact z).tu rfl) rfl ?_
  refine zat ?_
  walk_at "r"
  exact Run.nil ⟨rfl,_,I2,F1.trans F2,e7,⟨⟨e1,e3,e8,e9⟩,e6,fun _=>⟨by show s0.hist.length=_; rw [e4],by show s0.row+1=_; rw [e2],e11⟩,fun z=>absurd z q⟩,l,l,hla,by show s0.all[_]?=_; rw [e5]; exact hla,rfl⟩
theorem zjq (h:Is H s) (hn:s.hist.length+1≤300):zae W 10 (.ref 1333) [.ref s.sc] H (PNx (some true) s H):=by
 refine zll _ ?_
 unfold zgn
 have h1:=h.sc
 have h2:=h.cu
 obtain ⟨l,hl,hla⟩:=h.rowAt
 have hcl:=h.cl
 have hrw:=h.rwb
 have hrb:=h.rb
 walk_at "r"
 refine zav ((zc4 h hl).tu rfl) rfl ?_
 refine zat ?_
 walk_at "r"
 refine zav ((zem h).tu rfl) rfl ?_
 refine zat ?_
 walk_at "r"
 refine zav ((zja h hn).tu rfl) rfl ?_
 rintro _ H1 ⟨rfl,s1,I1,F1,hc1,N1,l0,l1,e0,el,ea⟩
 rw [hla] at e0; (injection e0 with e0; subst e0)
 have j1:=I1.sc
 have j2:=I1.cu
 unfold Scr.scF at j1
 unfold Scr.cuF at j2
 rw [N1.same.sc] at j1
 walk_at "r"
 refine zaq j2 rfl rfl ?_
 obtain ⟨s2,hs2⟩:∃ s2,s2=s1.cuTo s1.row 0 s1.wait s1.pen:=⟨_,rfl⟩
 have I2:Is (zab H1 s1.cu (.inst 976 s2.cuF)) s2:=by rw [hs2]; exact I1.setCu s1.row 0 s1.wait s1.pen I1.rb (by have:=I1.cl; exact zag (.i (.A (.l K2 Va) (.l Va (.k 7))) (.t K0 Va)) rfl this)
 have F2:Frm s1 H1 s2 (zab H1 s1.cu (.inst 976 s2.cuF)):=by rw [hs2]; exact Frm.set (zcs s1) rfl
 rw [show zaF 12 (V.int 0) [(11,V.int s1.row),(12,.int s1.col),(13,.bool s1.wait),(25,pn s1.pen),(26,.bool false),(27,.bool false)]=s2.cuF by rw [hs2]; rfl]
 generalize zab H1 s1.cu (.inst 976 s2.cuF)=H2 at *
 have e1:s2.sc=s.sc:=by rw [hs2]; exact N1.same.sc
 have e2:s2.row=s1.row:=by rw [hs2]; rfl
 have e3:s2.rows=s.rows:=by rw [hs2]; exact N1.same.rows
 have e4:s2.hist=s1.hist:=by rw [hs2]; rfl
 have e5:s2.all=s1.all:=by rw [hs2]; rfl
 have e6:s2.wait=s1.wait:=by rw [hs2]; rfl
 have e7:s2.col=0:=by rw [hs2]; rfl
 have e8:s2.cols=s.cols:=by rw [hs2]; exact N1.same.cols
 have e9:s2.pen=s.pen:=by rw [hs2]; exact N1.same.pen
 have e11:s2.lv=s1.lv:=by rw [hs2]; rfl
 clear hs2
 have k1:=I2.sc
 have k2:=I2.cu
 have k5:=I2.ma
 unfold Scr.scF at k1
 unfold Scr.cuF at k2
 unfold Scr.maF at k5
 rw [e1] at k1
 walk_at "r"
 refine zav ((show zae W 3 (.ref 1375) [.ref s.sc] H2 (is .none H2) by rw [← e1]; exact zel I2).tu rfl) rfl ?_
 refine zat ?_
 walk_at "r"
 refine r_t (by simp) ?_
 walk_at "c"
 have el2:s2.all[s.hist.length+s.row]?=some l1:=by rw [e5]; exact el
 have l1m:l1 ∈ s2.all:=List.mem_of_getElem? el2
 have lo:=(I2.ln l1 l1m).o
 have I3:=I2.setWr el2 true
 have F3:Frm s2 H2 (s2.setL (s.hist.length+s.row) { l1 with wr:=true }) (zab H2 l1.a (.inst 251 (lf l1.c true))):=Frm.set (zhN l1m) (I2.foot_setL (cs:=l1.cells) el2)
 have at1:s1.lv[s.hist.length+s.row]?=some (l1.cells,l1.wr):=by unfold Scr.lv; rw [List.getElem?_map]; exact congrArg (Option.map _) el
 have lv3:(s2.setL (s.hist.length+s.row) { l1 with wr:=true }).lv=s1.lv.modify (s.hist.length+s.row) (fun p=>(p.1,true)):=by
  rw [zfg (cs:=l1.cells) el2,e11]; exact (zij (fun p=>(p.1,true)) at1).symm
 rw [ea] at lo I3 F3 lv3
 unfold lf at lo
 have lt:s.hist.length+s.row < s.lv.length:=by unfold Scr.lv; rw [List.length_map]; exact (List.getElem?_eq_some_iff.mp hla).1
 have nn:s1.row≠s.row∨s.row+1=s.rows:=by
  by_cases q:s.row+1=s.rows
  ·exact .inr q
  ·have:=(N1.a (zad (.i (.t Va Vb) (.i (.n (.e (.a Va K1) Vb)) (.t (.a Va K1) Vb))) rfl hrb q)).2.1; exact .inl (zad (.i (.e Va (.a Vb K1)) (.n (.e Va Vb))) rfl this)
 have fin:∀ {ρ:Ro},Run W 9 [] [] ρ (zab H2 l.a (.inst 251 (lf l1.c true))) (zan (PNx (some true) s H)):=fun {ρ}=>by
  refine Run.nil ⟨rfl,_,I3,(F1.trans F2).trans F3,e7,⟨⟨e1,e3,e8,e9⟩,e6.trans N1.wait,fun q=>?_,fun q=>?_⟩⟩
  ·obtain ⟨a1,a2,a3⟩:=N1.a q
   refine ⟨by simpa [Scr.setL,e4] using a1,e2.trans a2,?_⟩
   rw [lv3,a3]
  ·obtain ⟨a1,a2,a3⟩:=N1.b q
   refine ⟨by simpa [Scr.setL,e4] using a1,e2.trans a2,?_⟩
   rw [lv3,a3,zmI _ (by simpa using lt),zmJ]
   rfl
 rcases nn with nn | nn
 ·refine r_t (by simp; exact zaj (.i (.e Va Vb) (.i (.n (.e Vb Vc)) (.n (.E (.c Va) (.c Vc))))) rfl e2 nn) ?_
  walk_at "c"
  refine zaq lo rfl rfl ?_
  exact fin
 ·by_cases q:s1.row=s.row
  ·refine r_f (by simp; exact zaj (.i (.e Va Vb) (.i (.e Vb Vc) (.E (.c Va) (.c Vc)))) rfl e2 q) ?_
   walk_at "c"
   refine r_t (by simp; exact zaj (.i (.e Va Vb) (.i (.e (.a Vc K1) Vb) (.E (.c Vc) (.s (.c Va) K1)))) rfl e3 nn) ?_
   walk_at "c"
   refine zaq lo rfl rfl ?_
   exact fin
  ·refine r_t (by simp; exact zaj (.i (.e Va Vb) (.i (.n (.e Vb Vc)) (.n (.E (.c Va) (.c Vc))))) rfl e2 q) ?_
   walk_at "c"
   refine zaq lo rfl rfl ?_
   exact fin
theorem zpC (h:Is H s) (hn:s.hist.length+1≤300):zae W 10 (.ref 1389) [.ref s.sc] H (PNx none s H):=by
 refine zlq _ ?_
 unfold zgs
 have h1:=h.sc
 walk_at "r"
 refine zav ((zja h hn).tu rfl) rfl ?_
 rintro _ H1 ⟨rfl,s1,I1,F1,hc1,N1,_⟩
 have j1:=I1.sc
 unfold Scr.scF at j1
 rw [N1.same.sc] at j1
 walk_at "r"
 refine zav (((N1.same.sc ▸ zo8 I1:zae W 4 (.ref 1382) [.ref s.sc] H1 (fun x H'=>x=.none∧Is H' { s1 with col:=0,wait:=false }∧Frm s1 H1 { s1 with col:=0,wait:=false } H'))).tu rfl) rfl ?_
 rintro _ H2 ⟨rfl,I2,F2⟩
 walk_at "r"
 exact Run.nil ⟨rfl,_,I2,F1.trans F2,rfl,⟨⟨N1.same.sc,N1.same.rows,N1.same.cols,N1.same.pen⟩,rfl,N1.a,N1.b⟩⟩
end
noncomputable abbrev LS:=List (List zaa × Bool) × List zaa
noncomputable def sgc (c:zaa):List zaa:=if c.w=2 then [c,zbM c.k] else [c]
noncomputable def Sg (c:zaa):Prop:=(c.w=1∨c.w=2)∧c.cs≠[]
noncomputable def putS (cols:Nat) (st:LS) (c:zaa):LS:=if st.2.length+c.w≤cols then (st.1,st.2++sgc c) else (st.1++[(st.2,true)],sgc c)
noncomputable def newT (st:LS):LS:=(st.1++[(st.2,false)],[])
noncomputable def zaz (cols:Nat) (q:List zaa × Bool):List zaa × Bool:=(q.1++List.replicate (cols - q.1.length) zar,q.2)
noncomputable def zaT (cols:Nat) (st:LS):List (List zaa × Bool):=(st.1++[(st.2,false)]).map (zaz cols)
theorem zbU {c:zaa} (h:Sg c):(sgc c).length=c.w:=by
 unfold sgc; rcases h.1 with h | h <;> simp [h]
structure zbZ (s:Scr) (st:LS):Prop where
 lv:s.lv=zaT s.cols st++List.replicate (s.rows - (st.1.length+1)) (List.replicate s.cols zar,false)
 first:s.hist.length=st.1.length+1 - s.rows
 row:s.hist.length+s.row=st.1.length
 col:s.col=min st.2.length (s.cols - 1)
 wait:s.wait=(st.2.length == s.cols)
 plen:st.2.length≤s.cols
 wf:∃ t:List zaa,st.2=t.flatMap sgc∧∀ c ∈ t,Sg c
theorem zbZ.next {H H':Hp} {s s':Scr} {A:List (List zaa × Bool)} {p:List zaa} {w:Option Bool} (h:Is H s) (h':Is H' s') (g:zbZ s (A,p)) (n:zdF w s s') (hc:s'.col=0):zbZ s' (A++[(p,w.getD false)],[]):=by
 obtain ⟨lv,first,row,col,wait,plen,wf⟩:=g
 dsimp only at lv first row col wait plen
 have hb:=h.rb
 have hr:=h.rwb
 have hcl:=h.cl
 have e1:s'.rows=s.rows:=n.same.rows
 have e2:s'.cols=s.cols:=n.same.cols
 have md:∀ (T:List (List zaa × Bool)) (b:Bool),(zaT s.cols (A,p)++T).modify A.length (fun q=>(q.1,b))=(A++[(p,b)]).map (zaz s.cols)++T:=fun T b=>by
  unfold zaT
  rw [List.map_append,List.map_append,List.append_assoc,List.append_assoc]
  have:∀ (B:List (List zaa × Bool)) (x:List zaa × Bool),(B++([x]++T)).modify B.length (fun q=>(q.1,b))=B++([(x.1,b)]++T):=by
   intro B x
   induction B with
   | nil=>simp
   | cons y B ih=>simpa using ih
  have:=this (A.map (zaz s.cols)) (zaz s.cols (p,false))
  rw [List.length_map] at this
  exact this
 have e0:zaz s.cols ([],false)=(List.replicate s.cols zar,false):=by simp [zaz]
 have goal1:s'.lv=zaT s.cols (A++[(p,w.getD false)],[])++List.replicate (s.rows - (A.length+2)) (List.replicate s.cols zar,false)∧s'.hist.length=A.length+2 - s.rows∧s'.hist.length+s'.row=A.length+1:=by
  by_cases q:s.row+1 < s.rows
  ·obtain ⟨a1,a2,a3⟩:=n.a q
   obtain ⟨z1,z2⟩:=zmS first row q
   refine ⟨?_,by rw [a1,z1,Nat.sub_eq_zero_of_le z2],by rw [a1,a2,← Nat.add_assoc,row]⟩
   have er:List.replicate (s.rows - (A.length+1)) (List.replicate s.cols zar,false)=(List.replicate s.cols zar,false)::List.replicate (s.rows - (A.length+2)) (List.replicate s.cols zar,false):=by
    rw [zmV z2,List.replicate_succ]
   have e3:s'.lv=(A++[(p,w.getD false)]).map (zaz s.cols)++List.replicate (s.rows - (A.length+1)) (List.replicate s.cols zar,false):=by
    rw [a3]
    induction w with
    | none=>exact lv
    | some b=>rw [row,lv]; exact md _ b
   rw [e3,er]
   unfold zaT
   simp [e0]
  ·have q':s.row+1=s.rows:=Nat.le_antisymm hb (Nat.le_of_not_lt q)
   obtain ⟨a1,a2,a3⟩:=n.b q'
   obtain ⟨z1,z2⟩:=zmR row q'.symm
   refine ⟨?_,by rw [a1,z1],by rw [a1,a2,Nat.add_right_comm,row]⟩
   rw [a3,row,lv,Nat.sub_eq_zero_of_le z2,Nat.sub_eq_zero_of_le (Nat.le_succ_of_le z2),md]
   unfold zaT
   simp [e0]
 obtain ⟨g1,g2,g3⟩:=goal1
 refine ⟨?_,?_,?_,?_,?_,Nat.zero_le _,[],rfl,by simp⟩
 ·rw [e1,e2]; simpa using g1
 ·rw [e1]; simpa using g2
 ·simpa using g3
 ·rw [hc]; simp
 ·rw [n.wait,e2]
  show false=((0:Nat) == s.cols)
  have:(0 == s.cols)=false:=by simp; exact zag (.i (.A (.l K2 Va) (.l Va (.k 7))) (.n (.e K0 Va))) rfl hcl
  exact this.symm
theorem zkW {cols:Nat} {A:List (List zaa × Bool)} {p:List zaa} (T:List (List zaa × Bool)):(zaT cols (A,p)++T)[A.length]?=some (zaz cols (p,false)):=by
 unfold zaT
 rw [List.map_append,List.append_assoc,List.getElem?_append_right (by simp)]
 simp
theorem zhP {cols:Nat} {A:List (List zaa × Bool)} {p p':List zaa} (T:List (List zaa × Bool)):(zaT cols (A,p)++T).set A.length (zaz cols (p',false))=zaT cols (A,p')++T:=by
 unfold zaT
 rw [List.map_append,List.map_append,List.append_assoc,List.append_assoc]
 have:∀ (B:List (List zaa × Bool)) (x y:List zaa × Bool),(B++([x]++T)).set B.length y=B++([y]++T):=by
  intro B x y
  induction B with
  | nil=>simp
  | cons z B ih=>simpa using ih
 have:=this (A.map (zaz cols)) (zaz cols (p,false)) (zaz cols (p',false))
 rw [List.length_map] at this
 exact this
theorem znR {cols:Nat} {p:List zaa} {c:zaa} (hc:Sg c) (h:p.length+c.w≤cols):zb8 (zaz cols (p,false)).1 p.length c=(zaz cols (p++sgc c,false)).1:=by
 unfold zb8 zaz sgc
 dsimp only
 have two:∀ (q:List zaa) (k:Nat) (x y:zaa),(q++List.replicate (k+2) zar).set q.length x=q++x::List.replicate (k+1) zar:=by
  intro q k x y; rw [List.set_append]; simp [List.replicate_succ]
 rcases hc.1 with hw | hw
 ·rw [if_neg (by exact zag (.i (.e Va K1) (.n (.e Va K2))) rfl hw),if_neg (by exact zag (.i (.e Va K1) (.n (.e Va K2))) rfl hw)]
  obtain ⟨k,hk⟩:∃ k,cols - p.length=k+1:=⟨cols - p.length - 1,by exact zaj (.i (.l (.a Va Vb) Vc) (.i (.e Vb K1) (.e (.s Vc Va) (.a (.s (.s Vc Va) K1) K1)))) rfl h hw⟩
  rw [hk,List.set_append,if_neg (by exact zag (.n (.t Va Va)) rfl)]
  simp [List.replicate_succ]
  exact zaj (.i (.e (.s Va Vb) (.a Vc K1)) (.e Vc (.s Va (.a Vb K1)))) rfl hk
 ·rw [if_pos hw,if_pos hw]
  obtain ⟨k,hk⟩:∃ k,cols - p.length=k+2:=⟨cols - p.length - 2,by exact zaj (.i (.l (.a Va Vb) Vc) (.i (.e Vb K2) (.e (.s Vc Va) (.a (.s (.s Vc Va) K2) K2)))) rfl h hw⟩
  rw [hk,List.set_append,if_neg (by exact zag (.n (.t Va Va)) rfl),Nat.sub_self,List.set_append,if_neg (by exact zag (.n (.t (.a Va K1) Va)) rfl),show p.length+1 - p.length=1 by exact zag (.e (.s (.a Va K1) Va) K1) rfl]
  simp [List.replicate_succ]
  exact zaj (.i (.e (.s Va Vb) (.a Vc K2)) (.e Vc (.s Va (.a Vb K2)))) rfl hk
theorem zbZ.lineAt {H:Hp} {s:Scr} {A:List (List zaa × Bool)} {p:List zaa} (h:Is H s) (g:zbZ s (A,p)):∃ l,s.grid[s.row]?=some l∧s.all[s.hist.length+s.row]?=some l∧l.cells=(zaz s.cols (p,false)).1∧l.wr=false:=by
 obtain ⟨l,h1,h2⟩:=h.rowAt
 refine ⟨l,h1,h2,?_⟩
 have:s.lv[s.hist.length+s.row]?=some (l.cells,l.wr):=by unfold Scr.lv; rw [List.getElem?_map,h2]; rfl
 rw [g.lv,g.row] at this
 dsimp only at this
 rw [zkW] at this
 have:=Option.some.inj this
 exact ⟨congrArg Prod.fst this.symm,congrArg Prod.snd this.symm⟩
noncomputable def zac (t:List zaa):List zaa:=t.flatMap sgc
theorem zaW (t u:List zaa):zac (t++u)=zac t++zac u:=by simp [zac]
theorem za1 (c:zaa):zac [c]=sgc c:=by simp [zac]
noncomputable def Scr.laTo (s:Scr) (x:Nat):Scr:={ s with la:=x }
noncomputable def mkC (c:zaa):zaa:={ c with cs:=c.cs++[769] }
noncomputable abbrev TS:=List (List zaa × Bool) × List zaa
noncomputable def TS.ls (st:TS):LS:=(st.1.map (fun q=>(zac q.1,q.2)),zac st.2)
noncomputable def zbC (cols:Nat) (st:TS) (c:zaa):TS:=if (zac st.2).length+c.w≤cols then (st.1,st.2++[c]) else (st.1++[(st.2,true)],[c])
noncomputable def nlT (st:TS):TS:=(st.1++[(st.2,false)],[])
noncomputable def mkT (st:TS):TS:=match st.2.reverse with | []=>st | c::r=>(st.1,r.reverse++[mkC c])
noncomputable def zcx (cols:Nat) (st:TS) (x:Nat × Nat):TS:=if x.1=0 then nlT st else if x.1=769 then mkT st else zbC cols st ⟨[x.1],if 19968≤x.1 then 2 else 1,x.2⟩
structure zaV (s:Scr) (st:TS):Prop where
 g:zbZ s st.ls
 sg:∀ c ∈ st.2,Sg c∧c.cs.length≤500
section
variable {W:Wx} {H:Hp} {s:Scr}
theorem ze5 {p:List zaa} {k i:Nat} (hi:p.length≤i) {c:zaa} (h:(p++List.replicate k zar)[i]?=some c):c=zar:=by
 rw [List.getElem?_append_right hi,List.getElem?_replicate] at h
 split at h
 ·exact (Option.some.inj h).symm
 ·injection h
theorem zpH {st:TS} (h:Is H s) (g:zaV s st) {c:zaa} (hc:Sg c) (fits:(zac st.2).length+c.w≤s.cols) {l:Ln} (hl:s.all[s.hist.length+s.row]?=some l) (hcs:l.cells=(zaz s.cols (zac st.2,false)).1) (hw:l.wr=false) (hb:c.cs.length≤500) :
  let s1:=s.setL (s.hist.length+s.row) { l with cells:=(zaz s.cols (zac st.2++sgc c,false)).1 }
  zae W 3 (.ref 169) [.ref l.a,.int (s.col:Nat),c.v] H (fun x H'=>x=.none∧Is H' s1∧Frm s H s1 H')∧(∀ x,zaV ((s1.adv s.col c.w).laTo x) (st.1,st.2++[c])):=by
 intro s1
 obtain ⟨⟨lv,first,row,col,wait,plen,wf⟩,sg⟩:=g
 unfold TS.ls at lv first row col wait plen
 dsimp only at lv first row col wait plen
 have lm:l ∈ s.all:=List.mem_of_getElem? hl
 have hcl:=h.cl
 have hwid:=h.wid l lm
 have cw:=zbR hc.1
 have col':s.col=(zac st.2).length:=by exact zaG (.i (.l (.a Va Vb) Vc) (.i (.e Vd (.m Va (.s Vc K1))) (.i (.A (.l K1 Vb) (.l Vb K2)) (.e Vd Va)))) rfl fits col cw
 have s1c:s1.cols=s.cols:=rfl
 have sl:=zbU hc
 constructor
 ·have:=zjl (W:=W) (j:=s.col) (c:=c) (h.ln l lm) (zad (.i (.A (.l K2 Va) (.l Va (.k 7))) (.i (.e Vb Va) (.l Vb (.k 500)))) rfl hcl hwid) hc.1 (za6 (.i (.l (.a Va Vb) Vc) (.i (.e Vd (.m Va (.s Vc K1))) (.i (.e Ve Vc) (.l (.a Vd Vb) Ve)))) rfl fits col hwid) (fun c' q=>?_) (fun c' q=>?_)
  ·refine this.mono ?_
   rintro x H' ⟨rfl,rfl⟩
   rw [hcs,col',znR hc fits]
   exact ⟨rfl,h.setCells hl (by unfold zaz; simp [sl]; exact zaj (.i (.l (.a Va Vb) Vc) (.e (.a Va (.a Vb (.s Vc (.a Va Vb)))) Vc)) rfl fits),Frm.set (zhO lm) (h.foot_setL (w:=l.wr) hl)⟩
  ·rw [hcs] at q
   rw [ze5 (p:=zac st.2) (by exact zad (.i (.e Va Vb) (.l Vb Va)) rfl col') q]; decide
  ·rw [hcs] at q
   rw [ze5 (p:=zac st.2) (by exact zaj (.i (.e Va Vb) (.l Vb (.a Va Vc))) rfl col') q]; decide
 ·intro x
  have e:zac (st.2++[c])=zac st.2++sgc c:=by rw [zaW,za1]
  have key:∀ (s2:Scr),s2.lv=s1.lv→s2.rows=s.rows→s2.cols=s.cols→s2.hist.length=s.hist.length→s2.row=s.row→s2.col=min ((zac st.2).length+c.w) (s.cols - 1)→s2.wait=((zac st.2).length+c.w == s.cols)→zaV s2 (st.1,st.2++[c]):=by
   intro s2 q1 q2 q3 q4 q5 q6 q7
   refine ⟨⟨?_,?_,?_,?_,?_,?_,?_⟩,?_⟩
   ·unfold TS.ls
    dsimp only
    rw [q1,q2,q3,e,zfg (cs:=(zaz s.cols (zac st.2++sgc c,false)).1) (w:=l.wr) hl,row,lv,hw]
    exact zhP (p':=zac st.2++sgc c) _
   ·unfold TS.ls; dsimp only; rw [q4,q2]; simpa using first
   ·unfold TS.ls; dsimp only; rw [q4,q5]; simpa using row
   ·unfold TS.ls; dsimp only; rw [q6,q3,e,List.length_append,sl]
   ·unfold TS.ls; dsimp only; rw [q7,q3,e,List.length_append,sl]
   ·unfold TS.ls; dsimp only; rw [q3,e,List.length_append,sl]; exact fits
   ·exact ⟨st.2++[c],rfl,fun y hy=>by
     rcases List.mem_append.mp hy with hy | hy
     ·exact (sg y hy).1
     ·rw [List.mem_singleton.mp hy]; exact hc⟩
   ·intro y hy
    rcases List.mem_append.mp hy with hy | hy
    ·exact sg y hy
    ·rw [List.mem_singleton.mp hy]; exact ⟨hc,hb⟩
  have hh:s1.hist.length=s.hist.length:=by simp [s1,Scr.setL]
  by_cases q:s1.cols≤s.col+c.w
  ·unfold Scr.adv
   rw [if_pos q]
   rw [s1c,col'] at q
   refine key _ rfl rfl rfl hh rfl ?_ ?_
   ·show s.cols - 1=_; exact zaj (.i (.l Va (.a Vb Vc)) (.e (.s Va K1) (.m (.a Vb Vc) (.s Va K1)))) rfl q
   ·show true=_; rw [eq_comm,beq_iff_eq]; exact zaj (.i (.l (.a Va Vb) Vc) (.i (.l Vc (.a Va Vb)) (.e (.a Va Vb) Vc))) rfl fits q
  ·unfold Scr.adv
   rw [if_neg q]
   rw [s1c,col'] at q
   refine key _ rfl rfl rfl hh rfl ?_ ?_
   ·show s.col+c.w=_; exact zaG (.i (.e Va (.m Vb (.s Vc K1))) (.i (.n (.l Vc (.a Vb Vd))) (.e (.a Va Vd) (.m (.a Vb Vd) (.s Vc K1))))) rfl col q
   ·show false=_; rw [eq_comm,beq_eq_false_iff_ne]; exact zaj (.i (.n (.l Va (.a Vb Vc))) (.n (.e (.a Vb Vc) Va))) rfl q
theorem zfF (h:Is H s) {x:Str} (hx:(dAt x onL).isNone=true):zae W 1 (.ref 782) [.ref s.mo,.str x] H (is (.bool false) H):=by
 have:=zjb (W:=W) h x
 rw [Option.isNone_iff_eq_none.mp hx] at this
 exact this
theorem zjc (h:Is H s):zae W 1 (.ref 782) [.ref s.mo,.str (S "autowrap")] H (is (.bool true) H):=zjb (W:=W) h (S "autowrap")
inductive PGt (s:Scr) (H:Hp) (T:TS) (x:V) (H':Hp):Prop
 | mk (e:x=.none) (s':Scr) (I:Is H' s') (F:Frm s H s' H') (S:zcm s s') (g:zaV s' T)
theorem zpJ {st:TS} (h:Is H s) (g:zaV s st) {c:zaa} (hc:Sg c) (hk:c.k=s.pen) (hb:c.cs.length≤500) (hn:s.hist.length+1≤300) :
  zae W 11 (.ref 1319) [.ref s.sc,.tup (isV c.cs),.int c.w] H (PGt s H (zbC s.cols st c)):=by
 refine zlj _ _ _ ?_
 unfold zgl
 have hcl:=h.cl
 have hlen:(isV c.cs).length=c.cs.length:=by simp [isV]
 have tail:∀ {H1:Hp} {s1:Scr} {st1:TS} {x3 x4:Option V},Is H1 s1→zaV s1 st1→zcm s s1→Frm s H s1 H1→(zac st1.2).length+c.w≤s.cols→(st1.1,st1.2++[c])=zbC s.cols st c →
   Run W 10 [I.loc 0,.attr 35,.attr 12,.sto 4,Y0,.attr 31,.mth 16,.lit (.str (S "insert")),.call 2,.chk,.ite [.bad,.pop,Y3,Y0,.mth 25,Y0,.attr 35,.attr 11,.call 2,(iI 1),.bin .Sub,.cmp .Eq,.chk,.ite [iF,Y0,.mth 3,.call 1,.sattr 1] []] [],Y0,.mth 3,.call 1,.mth 1,Y4,Y1,Y2,Y0,.attr 35,.attr 25,Y0,.attr 35,.attr 27,.tup 4,.call 3,.pop,Y0,.mth 35,Y4,Y2,.call 3,.pop,.lit (.raw (.type "list")),Y1,.call 1,Y0,.sattr 40] []
    [some (.ref s.sc),some (.tup (isV c.cs)),some (.int c.w),x3,x4] H1 (zan (PGt s H (zbC s.cols st c))):=by
  intro H1 s1 st1 x3 x4 I1 g1 sm F1 fits ef
  have j1:=I1.sc
  have j2:=I1.cu
  have j3:=I1.mo
  have hp:=zfp s1.pen
  unfold Scr.scF at j1
  unfold Scr.cuF at j2
  rw [sm.sc] at j1
  walk_at "r"
  refine zas ((zfF I1 (x:=S "insert") (by decide +kernel)).tu rfl) rfl ?_
  refine zat ?_
  walk_at "r"
  obtain ⟨l,hl1,hl2,hl3,hl4⟩:=g1.g.lineAt I1
  refine zav ((show zae W 2 (.ref 1235) [.ref s.sc] H1 (is (.ref l.a) H1) by rw [← sm.sc]; exact zc4 I1 hl1).tu rfl) rfl ?_
  refine zat ?_
  have lo:=(I1.ln l (List.mem_of_getElem? hl2)).o
  walk_at "r"
  obtain ⟨P1,P2⟩:=zpH (W:=W) I1 g1 hc (by rw [sm.cols]; exact fits) hl2 hl3 hl4 hb
  rw [show V.tup [V.tup (isV c.cs),.int c.w,pn s1.pen,.bool false]=c.v by unfold zaa.v; rw [hk,sm.pen]]
  refine za0 (P1.tu rfl) rfl ?_
  rintro _ H2 ⟨rfl,I2,F2⟩
  generalize hs2:s1.setL (s1.hist.length+s1.row) { l with cells:=(zaz s1.cols (zac st1.2++sgc c,false)).1 }=s2 at *
  have e2:s2.sc=s.sc:=by rw [← hs2]; exact sm.sc
  have k1:=I2.sc
  unfold Scr.scF at k1
  rw [e2] at k1
  walk_at "r"
  refine za0 ((show zae W 4 (.ref 1326) [.ref s.sc,.int (s1.col:Nat),.int c.w] H2 (fun x H'=>x=.none∧Is H' (s2.adv s1.col c.w)∧Frm s2 H2 (s2.adv s1.col c.w) H') by rw [← e2]; exact zo0 I2 s1.col c.w).tu rfl) rfl ?_
  rintro _ H3 ⟨rfl,I3,F3⟩
  have ex:∀ x,zcm s ((s2.adv s1.col c.w).laTo x):=fun x=>by
   have:∀ q,(s2.adv q c.w).sc=s2.sc∧(s2.adv q c.w).rows=s2.rows∧(s2.adv q c.w).cols=s2.cols∧(s2.adv q c.w).pen=s2.pen:=fun q=>by
    unfold Scr.adv; split <;> exact ⟨rfl,rfl,rfl,rfl⟩
   obtain ⟨q1,q2,q3,q4⟩:=this s1.col
   refine ⟨q1.trans e2,q2.trans ?_,q3.trans ?_,q4.trans ?_⟩ <;> rw [← hs2]
   ·exact sm.rows
   ·exact sm.cols
   ·exact sm.pen
  generalize s2.adv s1.col c.w=s3 at *
  have e3:s3.sc=s.sc:=(ex 0).sc
  walk_at "r"
  refine ziJ (zad (.i (.l Va (.k 500)) (.i (.e Vb Va) (.l Vb (.k 1000000)))) rfl hb hlen) fun c4 H4 f4 g4 E4=>?_
  have I4:=I3.ext E4
  have m1:=I4.sc
  unfold Scr.scF at m1
  rw [e3] at m1
  walk_at "r"
  refine zaq m1 rfl rfl ?_
  have I5:Is (zab H4 s3.sc (.inst 1485 (s3.laTo c4).scF)) (s3.laTo c4):=I4.setLa c4
  have F5:Frm s3 H4 (s3.laTo c4) (zab H4 s3.sc (.inst 1485 (s3.laTo c4).scF)):=Frm.set (ze3 s3) rfl
  rw [e3] at I5 F5
  have es:(s3.laTo c4).scF=zaF 40 (.ref c4) [(3,V.int s3.rows),(4,.int s3.cols),(31,.ref s3.mo),(32,.ref s3.wt),(33,.ref s3.hi),(34,.ref s3.gr),(35,.ref s3.cu),(36,.ref s3.ma),(37,.ref s3.tb),(38,.ref s3.ch),(39,.none),(40,.ref s3.la),(41,.bool false)]:=rfl
  rw [es] at I5 F5
  refine Run.nil ⟨rfl,_,I5,(((F1.trans F2).trans F3).trans (Frm.ext E4)).trans F5,ex c4,?_⟩
  rw [← ef]; exact P2 c4
 have hc2:=hc.1
 have cw:=zbR hc.1
 have wrapped:∀ {H1:Hp} {s1:Scr},Is H1 s1→s1.col=0→zdF (some true) s s1→s.cols < (zac st.2).length+c.w→zaV s1 (st.1++[(st.2,true)],[])∧((st.1++[(st.2,true)],([]:List zaa)++[c]):TS)=zbC s.cols st c:=by
  intro H1 s1 I1 q0 n1 q1
  refine ⟨⟨?_,by simp⟩,?_⟩
  ·have:=zbZ.next (A:=st.ls.1) (p:=st.ls.2) h I1 g.g n1 q0
   unfold TS.ls at this ⊢
   simpa [zac] using this
  ·unfold zbC; rw [if_neg (by exact zaj (.i (.t Va (.a Vb Vc)) (.n (.l (.a Vb Vc) Va))) rfl q1)]; rfl
 have two:∀ {H1:Hp} {s1:Scr} {st1:TS},Is H1 s1→zaV s1 st1→zcm s s1→Frm s H s1 H1→(zac st1.2).length+c.w≤s.cols→(st1.1,st1.2++[c])=zbC s.cols st c→(c.w=2→s1.col+1 < s1.cols) →
   Run W 10 (I.loc 0::.mth 26::.call 1::.sto 3::Y2::(iI 2)::.cmp .Eq::.chk::.ite [Y0,.attr 35,.attr 12,Y3,.cmp .GtE,.chk] [iF]::.ite [Y3,Y0,.mth 27,.call 1,.bin .Sub,(iI 1),.cmp .Lt,.chk,.ite [.lit (.none),.ret] [],Y0,.attr 35,.attr 12,.sto 4,Y0,.attr 31,.mth 16,.lit (.str (S "autowrap")),.call 2,.chk,.ite [Y0,.mth 36,.call 1,.pop] [Y3,(iI 1),.bin .Sub,Y0,.attr 35,.sattr 12],Y0,.mth 26,.call 1,.sto 3,Y0,.attr 35,.attr 12,Y3,.cmp .GtE,.chk,.ite [Y0,.attr 31,.mth 16,.lit (.str (S "autowrap")),.call 2,.chk,.notb,.ite [Y4,Y0,.attr 35,.sattr 12] [],.lit (.none),.ret] []] [] ::
    [I.loc 0,.attr 35,.attr 12,.sto 4,Y0,.attr 31,.mth 16,.lit (.str (S "insert")),.call 2,.chk,.ite [.bad,.pop,Y3,Y0,.mth 25,Y0,.attr 35,.attr 11,.call 2,(iI 1),.bin .Sub,.cmp .Eq,.chk,.ite [iF,Y0,.mth 3,.call 1,.sattr 1] []] [],Y0,.mth 3,.call 1,.mth 1,Y4,Y1,Y2,Y0,.attr 35,.attr 25,Y0,.attr 35,.attr 27,.tup 4,.call 3,.pop,Y0,.mth 35,Y4,Y2,.call 3,.pop,.lit (.raw (.type "list")),Y1,.call 1,Y0,.sattr 40]) []
    [some (.ref s.sc),some (.tup (isV c.cs)),some (.int c.w),none,none] H1 (zan (PGt s H (zbC s.cols st c))):=by
  intro H1 s1 st1 I1 g1 sm F1 fits ef hd
  have j1:=I1.sc
  have j2:=I1.cu
  unfold Scr.scF at j1
  unfold Scr.cuF at j2
  rw [sm.sc] at j1
  walk_at "r"
  refine zav ((show zae W 3 (.ref 1249) [.ref s.sc] H1 (is (.int ((s1.cols:Int) - 1)) H1) by rw [← sm.sc]; exact zdA I1).tu rfl) rfl ?_
  refine zat ?_
  walk_at "r"
  rcases hc2 with hw | hw
  ·refine r_f (by simp [hw]) ?_
   rw [List.cons_append,List.nil_append]
   refine Run.lit (r_f rfl ?_)
   rw [List.nil_append]
   exact tail I1 g1 sm F1 fits ef
  ·refine r_t (by simp [hw]) ?_
   walk_at "c"
   have:=hd hw
   refine r_f (decide_eq_false (zad (.i (.t (.a Va K1) Vb) (.n (.L (.s (.c Vb) K1) (.c Va)))) rfl this)) ?_
   rw [List.nil_append]
   exact tail I1 g1 sm F1 fits ef
 have h1:=h.sc
 have h2:=h.cu
 have h3:=h.mo
 have gw:=g.g.wait
 have gc:=g.g.col
 have gp:=g.g.plen
 unfold TS.ls at gw gc gp
 dsimp only at gw gc gp
 have main:Run W 10 (I.loc 0::.attr 35::.attr 13::.chk::.ite [Y0,.attr 31,.mth 16,.lit (.str (S "autowrap")),.call 2,.chk] [iF]::.ite [Y0,.mth 36,.call 1,.pop] [] ::
   (I.loc 0::.mth 26::.call 1::.sto 3::Y2::(iI 2)::.cmp .Eq::.chk::.ite [Y0,.attr 35,.attr 12,Y3,.cmp .GtE,.chk] [iF]::.ite [Y3,Y0,.mth 27,.call 1,.bin .Sub,(iI 1),.cmp .Lt,.chk,.ite [.lit (.none),.ret] [],Y0,.attr 35,.attr 12,.sto 4,Y0,.attr 31,.mth 16,.lit (.str (S "autowrap")),.call 2,.chk,.ite [Y0,.mth 36,.call 1,.pop] [Y3,(iI 1),.bin .Sub,Y0,.attr 35,.sattr 12],Y0,.mth 26,.call 1,.sto 3,Y0,.attr 35,.attr 12,Y3,.cmp .GtE,.chk,.ite [Y0,.attr 31,.mth 16,.lit (.str (S "autowrap")),.call 2,.chk,.notb,.ite [Y4,Y0,.attr 35,.sattr 12] [],.lit (.none),.ret] []] [] ::
    [I.loc 0,.attr 35,.attr 12,.sto 4,Y0,.attr 31,.mth 16,.lit (.str (S "insert")),.call 2,.chk,.ite [.bad,.pop,Y3,Y0,.mth 25,Y0,.attr 35,.attr 11,.call 2,(iI 1),.bin .Sub,.cmp .Eq,.chk,.ite [iF,Y0,.mth 3,.call 1,.sattr 1] []] [],Y0,.mth 3,.call 1,.mth 1,Y4,Y1,Y2,Y0,.attr 35,.attr 25,Y0,.attr 35,.attr 27,.tup 4,.call 3,.pop,Y0,.mth 35,Y4,Y2,.call 3,.pop,.lit (.raw (.type "list")),Y1,.call 1,Y0,.sattr 40])) []
    [some (.ref s.sc),some (.tup (isV c.cs)),some (.int c.w),none,none] H (zan (PGt s H (zbC s.cols st c))):=by
  refine Run.loc rfl ?_
  walk_at "r1"
  walk_at "r1"
  by_cases q:(zac st.2).length=s.cols
  ·have qw:s.wait=true:=by rw [gw,beq_iff_eq]; exact q
   refine Run.chk (r_t qw ?_)
   walk_at "c"
   refine zas ((zjc h).tu rfl) rfl ?_
   refine zat ?_
   refine Run.chk (r_t rfl ?_)
   walk_at "c"
   refine zav ((zjq h hn).tu rfl) rfl ?_
   rintro _ H1 ⟨rfl,s1,I1,F1,q0,n1⟩
   refine Run.pop ?_
   obtain ⟨w1,w2⟩:=wrapped I1 q0 n1 (zaj (.i (.O (.e Va K1) (.e Va K2)) (.i (.e Vb Vc) (.t Vc (.a Vb Va)))) rfl hc2 q)
   exact two I1 w1 n1.same F1 (by show (zac []).length+c.w≤s.cols; simp [zac]; exact zad (.i (.A (.l K2 Va) (.l Va (.k 7))) (.i (.O (.e Vb K1) (.e Vb K2)) (.l Vb Va))) rfl hcl hc2) w2 fun _=>by rw [q0,n1.same.cols]; exact zag (.i (.A (.l K2 Va) (.l Va (.k 7))) (.t (.a K0 K1) Va)) rfl hcl
  ·have qw:s.wait=false:=by rw [gw,beq_eq_false_iff_ne]; exact q
   refine Run.chk (r_f qw ?_)
   refine Run.lit (r_f rfl ?_)
   rw [List.nil_append]
   by_cases q2:(zac st.2).length+c.w≤s.cols
   ·exact two h g .refl .refl q2 (by unfold zbC; rw [if_pos q2]) fun e=>by exact zaG (.i (.e Va (.m Vb (.s Vc K1))) (.i (.l (.a Vb Vd) Vc) (.i (.e Vd K2) (.t (.a Va K1) Vc)))) rfl gc q2 e
   ·have hw:c.w=2:=by exact zaj (.i (.O (.e Va K1) (.e Va K2)) (.i (.l Vb Vc) (.i (.n (.e Vb Vc)) (.i (.n (.l (.a Vb Va) Vc)) (.e Va K2))))) rfl hc2 gp q q2
    walk_at "r"
    refine zav ((zdA h).tu rfl) rfl ?_
    refine zat ?_
    walk_at "r"
    refine r_t (by simp [hw]) ?_
    walk_at "c"
    refine r_t (decide_eq_true (zaG (.i (.O (.e Va K1) (.e Va K2)) (.i (.e Vb (.m Vc (.s Vd K1))) (.i (.n (.l (.a Vc Va) Vd)) (.L (.s (.c Vd) K1) (.c Vb))))) rfl hc2 gc q2)) ?_
    walk_at "c"
    refine zav ((zem h).tu rfl) rfl ?_
    refine zat ?_
    walk_at "r"
    refine r_f (decide_eq_false (zag (.i (.A (.l K2 Va) (.l Va (.k 7))) (.n (.T (.s (.s (.c Va) K1) K0) K1))) rfl hcl)) ?_
    walk_at "c"
    refine zas ((zjc h).tu rfl) rfl ?_
    refine zat ?_
    walk_at "r"
    refine zav ((zjq h hn).tu rfl) rfl ?_
    rintro _ H1 ⟨rfl,s1,I1,F1,q0,n1⟩
    have j1:=I1.sc
    have j2:=I1.cu
    unfold Scr.scF at j1
    unfold Scr.cuF at j2
    rw [n1.same.sc] at j1
    walk_at "r"
    refine zav ((show zae W 3 (.ref 1249) [.ref s.sc] H1 (is (.int ((s1.cols:Int) - 1)) H1) by rw [← n1.same.sc]; exact zdA I1).tu rfl) rfl ?_
    refine zat ?_
    walk_at "r"
    have e1:s1.cols=s.cols:=n1.same.cols
    refine r_f (decide_eq_false (zaj (.i (.A (.l K2 Va) (.l Va (.k 7))) (.i (.e Vb K0) (.i (.e Vc Va) (.n (.L (.s (.c Vc) K1) (.c Vb)))))) rfl hcl q0 e1)) ?_
    rw [List.nil_append]
    obtain ⟨w1,w2⟩:=wrapped I1 q0 n1 (zaj (.i (.n (.l (.a Va Vb) Vc)) (.t Vc (.a Va Vb))) rfl q2)
    exact tail I1 w1 n1.same F1 (by show (zac []).length+c.w≤s.cols; simp [zac]; exact zad (.i (.A (.l K2 Va) (.l Va (.k 7))) (.i (.O (.e Vb K1) (.e Vb K2)) (.l Vb Va))) rfl hcl hc2) w2
 refine Run.loc rfl (Run.lit (zdv (Run.chk ?_)))
 rcases hc.1 with hw | hw
 ·refine r_f (by simp [hw]) ?_
  refine Run.lit (r_f rfl ?_)
  exact main
 ·refine r_t (by simp [hw]) ?_
  rw [List.cons_append]
  refine Run.loc rfl ?_
  rw [List.cons_append]
  walk_at "r1"
  rw [List.cons_append]
  refine zav ((zpw h).tu rfl) rfl ?_
  refine zat ?_
  refine Run.chk (r_f rfl ?_)
  exact main
end
section
variable {W:Wx} {H:Hp} {s:Scr}
theorem zoN {c:zaa} (hc:Sg c) (p:List zaa) (T:List zaa):(c.w=1→(p++sgc c++T)[p.length+c.w - 1]?=some c)∧(c.w=2→(p++sgc c++T)[p.length+c.w - 1]?=some (zbM c.k)∧(p++sgc c++T)[p.length+c.w - 2]?=some c):=by
 constructor <;> intro hw
 ·rw [List.append_assoc,hw,List.getElem?_append_right (by exact zag (.l Va (.s (.a Va K1) K1)) rfl)]
  unfold sgc; rw [if_neg (by exact zag (.i (.e Va K1) (.n (.e Va K2))) rfl hw)]; simp
 ·have e:sgc c=[c,zbM c.k]:=by unfold sgc; rw [if_pos hw]
  rw [List.append_assoc,hw,e]
  refine ⟨?_,?_⟩
  ·rw [List.getElem?_append_right (by exact zag (.l Va (.s (.a Va K2) K1)) rfl)]; simp
  ·rw [List.getElem?_append_right (by exact zag (.l Va (.s (.a Va K2) K2)) rfl)]; simp
theorem zbQ {l:List zaa} {i:Nat} {c:zaa} (h:l[i]?=some c):(l.map zaa.v)[i]?=some c.v:=by rw [List.getElem?_map,h]; rfl
theorem zo2 {A:List (List zaa × Bool)} (h:Is H s) (g:zaV s (A,[])):zae W 3 (.ref 1291) [.ref s.sc] H (is .none H):=by
 refine zhT _ ?_
 unfold zey
 have h1:=h.sc
 have h2:=h.cu
 have hcl:=h.cl
 have gw:=g.g.wait
 have gc:=g.g.col
 unfold TS.ls at gw gc
 simp only [zac,List.flatMap_nil,List.length_nil] at gw gc
 have qw:s.wait=false:=by rw [gw,beq_eq_false_iff_ne]; exact zag (.i (.A (.l K2 Va) (.l Va (.k 7))) (.n (.e K0 Va))) rfl hcl
 walk_at "r"
 refine r_f qw ?_
 walk_at "c"
 refine r_t (decide_eq_true (zad (.i (.e Va (.m K0 (.s Vb K1))) (.T (.s (.c Va) K1) K0)) rfl gc)) ?_
 walk_at "c"
 exact Run.ret ⟨rfl,rfl⟩
theorem zo1 {A:List (List zaa × Bool)} {t:List zaa} {c:zaa} (h:Is H s) (g:zaV s (A,t++[c])):zae W 3 (.ref 1291) [.ref s.sc] H (is (.int ((zac t).length:Nat)) H):=by
 refine zhT _ ?_
 unfold zey
 have h1:=h.sc
 have h2:=h.cu
 have hcl:=h.cl
 have hc:=(g.sg c (by simp)).1
 have gw:=g.g.wait
 have gc:=g.g.col
 have gp:=g.g.plen
 obtain ⟨l,hl1,hl2,hl3,hl4⟩:=g.g.lineAt h
 have lm:=h.ln l (List.mem_of_getElem? hl2)
 have lo:=lm.o
 have lc:=lm.cs
 unfold lf at lo
 unfold TS.ls at gw gc gp
 simp only [zaW,za1,List.length_append,zbU hc] at gw gc gp hl3
 have cw:=zbR hc.1
 have sl:=zoN hc (zac t) (List.replicate (s.cols - (zac t++sgc c).length) zar)
 have hl3':l.cells=zac t++sgc c++List.replicate (s.cols - (zac t++sgc c).length) zar:=hl3
 rw [← hl3'] at sl
 have csne:PyData.eqv (.tuple (isD c.cs)) (.tuple [])=false:=by rw [zeY]; induction hq:c.cs using List.casesOn with | nil=>exact absurd hq hc.2 | cons _ _=>rfl
 have fin:∀ {x2:V},Run W 2 [I.loc 1,(iI 0),.cmp .GtE,.chk,.ite [Y2,(iI 0),.idx,.tup 0,.cmp .NotEq,.chk] [iF],.ite [Y1] [.lit (.none)],.ret] [] [some (.ref s.sc),some (.int ((zac t).length:Nat)),some c.v] H (zan (is (.int ((zac t).length:Nat)) H)):=fun {x2}=>by
  walk_at "r"
  refine zcg (n:=1) (m:=1) (.tup (zdj _)) (.tup .nil) (lin (.l K1 (.k 60)) [] rfl) (lin (.l K1 (.k 60)) [] rfl) (b:=true) csne ?_
  walk_at "r"
  exact Run.ret ⟨rfl,rfl⟩
 have rest:Run W 2 [I.loc 1,(iI 0),.cmp .Lt,.chk,.ite [.lit (.none),.ret] [],Y0,.mth 3,.call 1,.attr 0,Y1,.idx,.sto 2,Y2,(iI 1),.idx,(iI 0),.cmp .Eq,.chk,.ite [Y1,(iI 1),.bin .Sub,.sto 1,Y1,(iI 0),.cmp .GtE,.chk,.ite [Y0,.mth 3,.call 1,.attr 0,Y1,.idx] [Y2],.sto 2] [],Y1,(iI 0),.cmp .GtE,.chk,.ite [Y2,(iI 0),.idx,.tup 0,.cmp .NotEq,.chk] [iF],.ite [Y1] [.lit (.none)],.ret] []
   [some (.ref s.sc),some (.int (((zac t).length+c.w - 1:Nat):Int)),none] H (zan (is (.int ((zac t).length:Nat)) H)):=by
  walk_at "r"
  refine zav ((zc4 h hl1).tu rfl) rfl ?_
  refine zat ?_
  walk_at "r"
  rcases hc.1 with hw | hw
  ·refine zaB lc (zaj (.i (.A (.l K2 Va) (.l Va (.k 7))) (.i (.l (.a Vb Vc) Va) (.A (.L (.g (.k 1000)) (.c (.s (.a Vb Vc) K1))) (.L (.c (.s (.a Vb Vc) K1)) (.k 1000))))) rfl hcl gp) (zba (zbQ (sl.1 hw))) ?_
   walk_at "r"
   refine r_f (by simp [hw]) ?_
   rw [List.nil_append,show (zac t).length+c.w - 1=(zac t).length by rw [hw]; rfl]
   exact fin (x2:=.none)
  ·refine zaB lc (zaj (.i (.A (.l K2 Va) (.l Va (.k 7))) (.i (.l (.a Vb Vc) Va) (.A (.L (.g (.k 1000)) (.c (.s (.a Vb Vc) K1))) (.L (.c (.s (.a Vb Vc) K1)) (.k 1000))))) rfl hcl gp) (zba (zbQ (sl.2 hw).1)) ?_
   walk_at "r"
   rw [zmQ hw]
   walk_at "r"
   refine zav ((zc4 h hl1).tu rfl) rfl ?_
   refine zat ?_
   walk_at "r"
   refine zaB lc (zaj (.i (.A (.l K2 Va) (.l Va (.k 7))) (.i (.l (.a Vb Vc) Va) (.A (.L (.g (.k 1000)) (.c (.s (.a Vb Vc) K2))) (.L (.c (.s (.a Vb Vc) K2)) (.k 1000))))) rfl hcl gp) (zba (zbQ (sl.2 hw).2)) ?_
   refine zbc rfl ?_
   simp only [List.set_cons_succ,List.set_cons_zero]
   rw [show (zac t).length+c.w - 2=(zac t).length by rw [hw]; rfl]
   exact fin (x2:=.none)
 walk_at "r"
 by_cases q:(zac t).length+c.w=s.cols
 ·have qw:s.wait=true:=by rw [gw,beq_iff_eq]; exact q
  refine r_t qw ?_
  rw [List.cons_append]
  walk_at "r1"
  rw [List.cons_append]
  walk_at "r1"
  rw [List.cons_append]
  walk_at "r1"
  rw [List.nil_append]
  refine zbc rfl ?_
  simp only [List.set_cons_succ,List.set_cons_zero]
  rw [show s.col=(zac t).length+c.w - 1 from zmN gc q]
  exact rest
 ·have qw:s.wait=false:=by rw [gw,beq_eq_false_iff_ne]; exact q
  refine r_f qw ?_
  rw [List.cons_append]
  walk_at "r1"
  rw [List.cons_append]
  walk_at "r1"
  rw [List.cons_append]
  walk_at "r1"
  rw [List.cons_append]
  walk_at "r1"
  rw [List.cons_append]
  walk_at "r1"
  rw [List.nil_append]
  refine zbc rfl ?_
  simp only [List.set_cons_succ,List.set_cons_zero]
  rw [zmO gc q gp,zmP cw.1]
  exact rest
end
theorem znQ {c c':zaa} (hc:Sg c) (hw:c'.w=c.w) (p T:List zaa):zb8 (p++sgc c++T) p.length c'=p++sgc c'++T:=by
 unfold zb8
 rcases hc.1 with q | q
 ·have e:sgc c=[c]:=by unfold sgc; rw [if_neg (by exact zag (.i (.e Va K1) (.n (.e Va K2))) rfl q)]
  have e':sgc c'=[c']:=by unfold sgc; rw [if_neg (by exact zad (.i (.e Va Vb) (.i (.e Vb K1) (.n (.e Va K2)))) rfl hw q)]
  rw [if_neg (by exact zad (.i (.e Va Vb) (.i (.e Vb K1) (.n (.e Va K2)))) rfl hw q),e,e',List.append_assoc,List.append_assoc,List.set_append,if_neg (by exact zag (.n (.t Va Va)) rfl)]
  simp
 ·have e:sgc c=[c,zbM c.k]:=by unfold sgc; rw [if_pos q]
  have e':sgc c'=[c',zbM c'.k]:=by unfold sgc; rw [if_pos (by exact zad (.i (.e Va Vb) (.i (.e Vb K2) (.e Va K2))) rfl hw q)]
  rw [if_pos (by exact zad (.i (.e Va Vb) (.i (.e Vb K2) (.e Va K2))) rfl hw q),e,e',List.append_assoc,List.append_assoc,List.set_append,if_neg (by exact zag (.n (.t Va Va)) rfl),Nat.sub_self,List.set_append,if_neg (by exact zag (.n (.t (.a Va K1) Va)) rfl),show p.length+1 - p.length=1 by exact zag (.e (.s (.a Va K1) Va) K1) rfl]
  simp
theorem zih (A:List (List zaa × Bool)) (t:List zaa) (c:zaa):mkT (A,t++[c])=(A,t++[mkC c]):=by
 unfold mkT
 simp
section
variable {W:Wx} {H:Hp} {s:Scr}
inductive PJn (s:Scr) (H:Hp) (T:TS) (x:V) (H':Hp):Prop
 | mk (s':Scr) (I:Is H' s') (F:Frm s H s' H') (S:zcm s s') (g:zaV s' T)
theorem zpp {st:TS} (h:Is H s) (g:zaV s st) (hb:∀ c ∈ st.2,c.cs.length≤499):zae W 5 (.ref 1305) [.ref s.sc,.int 769] H (PJn s H (mkT st)):=by
 refine zlh _ _ ?_
 unfold zgj
 have h1:=h.sc
 have h3:=h.mo
 obtain ⟨A,t⟩:=st
 rcases List.eq_nil_or_concat t with rfl | ⟨t,c,rfl⟩
 ·walk_at "r"
  refine zav ((zo2 h g).tu rfl) rfl ?_
  refine zat ?_
  walk_at "r"
  exact Run.ret ⟨s,h,.refl,.refl,g⟩
 ·rw [List.concat_eq_append] at g hb ⊢
  have hc:=(g.sg c (by simp)).1
  have hcb:c.cs.length≤499:=hb c (by simp)
  have cw:=zbR hc.1
  have hcl:=h.cl
  have hp:=zfp c.k
  obtain ⟨l,hl1,hl2,hl3,hl4⟩:=g.g.lineAt h
  have lm:l ∈ s.all:=List.mem_of_getElem? hl2
  have ll:=h.ln l lm
  have lo:=ll.o
  have lc:=ll.cs
  unfold lf at lo
  have hl3':l.cells=zac t++sgc c++List.replicate (s.cols - (zac t++sgc c).length) zar:=by
   rw [hl3]; unfold zaz; dsimp only; rw [zaW,za1]
  have gp:=g.g.plen
  unfold TS.ls at gp
  simp only [zaW,za1,List.length_append,zbU hc] at gp
  have hat:l.cells[(zac t).length]?=some c:=by
   rw [hl3',List.append_assoc,List.getElem?_append_right (by exact zag (.l Va Va) rfl),Nat.sub_self]
   unfold sgc; split <;> simp
  have hat2:∀ c',l.cells[(zac t).length+c.w]?=some c'→c'=zar:=fun c' q=>by
   rw [hl3'] at q
   exact ze5 (p:=zac t++sgc c) (by simp [zbU hc]) q
  walk_at "r"
  refine zav ((zo1 h g).tu rfl) rfl ?_
  refine zat ?_
  walk_at "r"
  refine zav ((zc4 h hl1).tu rfl) rfl ?_
  refine zat ?_
  walk_at "r"
  refine zaB lc (zaj (.i (.A (.l K2 Va) (.l Va (.k 7))) (.i (.l (.a Vb Vc) Va) (.A (.L (.g (.k 1000)) (.c Vb)) (.L (.c Vb) (.k 1000))))) rfl hcl gp) (zba (zbQ hat)) ?_
  refine ziS ?_
  walk_at "r"
  refine ziC (by simp [isV]; exact zag (.i (.l Va (.k 499)) (.l Va (.k 999))) rfl hcb) ?_
  rw [show isV c.cs++[V.int 769]=isV (mkC c).cs by unfold isV mkC; simp]
  walk_at "r"
  refine zas ((zfF h (x:=S "clusters") (by decide +kernel)).tu rfl) rfl ?_
  refine zat ?_
  walk_at "r"
  have put:∀ {k:List I} {Q:Out→Prop} {x7:Option V},(∀ H1,Is H1 (s.setL (s.hist.length+s.row) { l with cells:=(zaz s.cols (zac t++sgc (mkC c),false)).1 })→Frm s H (s.setL (s.hist.length+s.row) { l with cells:=(zaz s.cols (zac t++sgc (mkC c),false)).1 }) H1 →
    Run W 4 k [] [some (.ref s.sc),some (.int 769),some (.int ((zac t).length:Nat)),some (.tup (isV (mkC c).cs)),some (.int c.w),some (pn c.k),some (.bool false),x7] H1 Q) →
    Run W 4 ([I.loc 0,.mth 3,.call 1,.mth 1,Y2,Y3,Y4,Y5,Y6,.tup 4,.call 3,.pop]++k) [] [some (.ref s.sc),some (.int 769),some (.int ((zac t).length:Nat)),some (.tup (isV (mkC c).cs)),some (.int c.w),some (pn c.k),some (.bool false),x7] H Q:=fun {k Q x7} r=>by
   walk_at "c"
   refine zav ((zc4 h hl1).tu rfl) rfl ?_
   refine zat ?_
   walk_at "r"
   rw [show V.tup [V.tup (isV (mkC c).cs),.int c.w,pn c.k,.bool false]=(mkC c).v from rfl]
   have hwid:=h.wid l lm
   refine za0 ((zjl (W:=W) (j:=(zac t).length) (c:=mkC c) ll (zad (.i (.A (.l K2 Va) (.l Va (.k 7))) (.i (.e Vb Va) (.l Vb (.k 500)))) rfl hcl hwid) hc.1 (by rw [hwid]; exact gp) (fun c' q=>by rw [hat] at q; (injection q with q; subst q); exact zag (.i (.A (.l K1 Va) (.l Va K2)) (.n (.e Va K0))) rfl cw) (fun c' q=>by rw [hat2 c' q]; decide)).tu rfl) rfl ?_
   refine zat ?_
   refine Run.pop (r _ ?_ ?_)
   ·rw [show zb8 l.cells (zac t).length (mkC c)=(zaz s.cols (zac t++sgc (mkC c),false)).1 by
     rw [hl3',znQ (c':=mkC c) hc rfl]; unfold zaz; simp [zbU hc,zbU (c:=mkC c) ⟨hc.1,by simp [mkC]⟩]; rfl]
    exact h.setCells hl2 (by unfold zaz; simp [zbU (c:=mkC c) ⟨hc.1,by simp [mkC]⟩]; have:(mkC c).w=c.w:=rfl; exact zaG (.i (.l (.a Va Vb) Vc) (.i (.e Vd Vb) (.e (.a Va (.a Vd (.s Vc (.a Va Vd)))) Vc))) rfl gp this)
   ·exact Frm.set (zhO lm) (h.foot_setL (w:=l.wr) hl2)
  have fin:∀ {H1:Hp} {x7:Option V},Is H1 (s.setL (s.hist.length+s.row) { l with cells:=(zaz s.cols (zac t++sgc (mkC c),false)).1 })→Frm s H (s.setL (s.hist.length+s.row) { l with cells:=(zaz s.cols (zac t++sgc (mkC c),false)).1 }) H1 →
    Run W 4 [I.lit (.raw (.type "list")),Y3,.call 1,Y0,.sattr 40,iT,.ret] [] [some (.ref s.sc),some (.int 769),some (.int ((zac t).length:Nat)),some (.tup (isV (mkC c).cs)),some (.int c.w),some (pn c.k),some (.bool false),x7] H1
     (zan (PJn s H (mkT (A,t++[c])))):=by
   intro H1 x7 I2 F2
   obtain ⟨s2,hs2⟩:∃ s2,s2=s.setL (s.hist.length+s.row) { l with cells:=(zaz s.cols (zac t++sgc (mkC c),false)).1 }:=⟨_,rfl⟩
   rw [← hs2] at I2 F2
   have e2:s2.sc=s.sc:=by rw [hs2]; rfl
   walk_at "r"
   refine ziJ (by simp [isV,mkC]; exact zag (.i (.l Va (.k 499)) (.l Va (.k 999999))) rfl hcb) fun c4 H4 f4 g4 E4=>?_
   have I4:=I2.ext E4
   have m1:=I4.sc
   unfold Scr.scF at m1
   rw [e2] at m1
   walk_at "r"
   refine zaq m1 rfl rfl ?_
   have I5:Is (zab H4 s2.sc (.inst 1485 (s2.laTo c4).scF)) (s2.laTo c4):=I4.setLa c4
   have F5:Frm s2 H4 (s2.laTo c4) (zab H4 s2.sc (.inst 1485 (s2.laTo c4).scF)):=Frm.set (ze3 s2) rfl
   rw [e2] at I5 F5
   have es:(s2.laTo c4).scF=zaF 40 (.ref c4) [(3,V.int s2.rows),(4,.int s2.cols),(31,.ref s2.mo),(32,.ref s2.wt),(33,.ref s2.hi),(34,.ref s2.gr),(35,.ref s2.cu),(36,.ref s2.ma),(37,.ref s2.tb),(38,.ref s2.ch),(39,.none),(40,.ref s2.la),(41,.bool false)]:=rfl
   rw [es] at I5 F5
   walk_at "r"
   obtain ⟨⟨lv,first,row,col,wait,plen,wf⟩,sg⟩:=g
   refine Run.ret ⟨_,I5,(F2.trans (Frm.ext E4)).trans F5,⟨e2,by rw [hs2]; rfl,by rw [hs2]; rfl,by rw [hs2]; rfl⟩,?_⟩
   rw [zih]
   have hm:Sg (mkC c):=⟨hc.1,by simp [mkC]⟩
   have e:zac (t++[mkC c])=zac t++sgc (mkC c):=by rw [zaW,za1]
   have eo:zac (t++[c])=zac t++sgc c:=by rw [zaW,za1]
   have el:(zac (t++[mkC c])).length=(zac (t++[c])).length:=by rw [e,eo,List.length_append,List.length_append,zbU hc,zbU hm]; rfl
   have q2:(s2.laTo c4).rows=s.rows:=by rw [hs2]; rfl
   have q3:(s2.laTo c4).cols=s.cols:=by rw [hs2]; rfl
   have q4:(s2.laTo c4).hist.length=s.hist.length:=by rw [hs2]; simp [Scr.setL,Scr.laTo]
   have q5:(s2.laTo c4).row=s.row:=by rw [hs2]; rfl
   unfold TS.ls at lv first row col wait plen
   dsimp only at lv first row col wait plen
   refine ⟨⟨?_,?_,?_,?_,?_,?_,?_⟩,?_⟩
   ·unfold TS.ls
    dsimp only
    rw [q2,q3,e,show (s2.laTo c4).lv=s2.lv from rfl,hs2,zfg (cs:=(zaz s.cols (zac t++sgc (mkC c),false)).1) (w:=l.wr) hl2,row,lv,hl4]
    exact zhP (p':=zac t++sgc (mkC c)) _
   ·unfold TS.ls; dsimp only; rw [q4,q2]; exact first
   ·unfold TS.ls; dsimp only; rw [q4,q5]; exact row
   ·unfold TS.ls; dsimp only; rw [q3,el,← col,hs2]; rfl
   ·unfold TS.ls; dsimp only; rw [q3,el,← wait,hs2]; rfl
   ·unfold TS.ls; dsimp only; rw [q3,el]; exact plen
   ·exact ⟨t++[mkC c],rfl,fun y hy=>by
     rcases List.mem_append.mp hy with hy | hy
     ·exact (sg y (List.mem_append_left _ hy)).1
     ·rw [List.mem_singleton.mp hy]; exact hm⟩
   ·intro y hy
    rcases List.mem_append.mp hy with hy | hy
    ·exact sg y (List.mem_append_left _ hy)
    ·rw [List.mem_singleton.mp hy]; exact ⟨hm,by simp [mkC]; exact zag (.i (.l Va (.k 499)) (.l Va (.k 499))) rfl hcb⟩
  rcases hc.1 with hw | hw
  ·refine r_f (by simp [hw]) ?_
   refine Run.lit (r_f rfl ?_)
   exact put fun H1 I2 F2=>fin I2 F2
  ·refine r_t (by simp [hw]) ?_
   walk_at "c"
   refine r_f (by simp [hw]) ?_
   refine Run.lit (r_f rfl ?_)
   exact put fun H1 I2 F2=>fin I2 F2
theorem zpI {st:TS} (h:Is H s) (g:zaV s st) {code:Nat} (h0:code≠0) (hcode:code=769∨(97≤code∧code≤122)∨(19968≤code∧code≤20000)) (hb:∀ c ∈ st.2,c.cs.length≤499) (hn:s.hist.length+1≤300) :
  zae W 12 (.ref 1284) [.ref s.sc,.int code] H (PGt s H (zcx s.cols st (code,s.pen))):=by
 refine zlg _ _ ?_
 unfold zgi
 have h1:=h.sc
 have h2:=h.ch
 unfold Scr.scF at h1
 walk_at "r"
 refine za0 ((zpv h code).tu rfl) rfl ?_
 rintro _ H1 ⟨rfl,I1,F1⟩
 have j1:=I1.sc
 have j2:=I1.wt
 have j3:=I1.mo
 unfold Scr.scF at j1
 walk_at "r"
 refine zas ((zpV I1 code).tu rfl) rfl ?_
 refine zat ?_
 walk_at "r"
 by_cases q:code=769
 ·subst q
  rw [show wOf ((769:Nat):Int)=0 by decide]
  walk_at "r"
  refine zas ((zpp I1 g hb).tu rfl) rfl ?_
  rintro x H2 ⟨s',I2,F2,sm,g2⟩
  walk_at "r"
  exact Run.nil ⟨rfl,s',I2,F1.trans F2,sm,by unfold zcx; rw [if_neg (by simp),if_pos rfl]; exact g2⟩
 ·have hw:wOf (code:Int)=((if 19968≤code then 2 else 1:Nat):Int):=by
   unfold wOf
   rw [if_neg (by exact zag (.i (.O (.e Va (.k 769)) (.O (.A (.l (.k 97) Va) (.l Va (.k 122))) (.A (.l (.k 19968) Va) (.l Va (.k 20000))))) (.i (.n (.e Va (.k 769))) (.n (.A (.L (.k 768) (.c Va)) (.L (.c Va) (.k 879)))))) rfl hcode q)]
   by_cases q2:19968≤code
   ·rw [if_pos (by exact zag (.i (.O (.e Va (.k 769)) (.O (.A (.l (.k 97) Va) (.l Va (.k 122))) (.A (.l (.k 19968) Va) (.l Va (.k 20000))))) (.i (.l (.k 19968) Va) (.A (.L (.k 19968) (.c Va)) (.L (.c Va) (.k 20223))))) rfl hcode q2),if_pos q2]; rfl
   ·rw [if_neg (by exact zag (.i (.n (.l (.k 19968) Va)) (.n (.A (.L (.k 19968) (.c Va)) (.L (.c Va) (.k 20223))))) rfl q2),if_neg q2]; rfl
  rw [hw]
  have hne:(((if 19968≤code then 2 else 1:Nat):Int) == 0)=false:=by split <;> rfl
  refine r_f hne ?_
  walk_at "c"
  refine zas ((zfF I1 (x:=S "clusters") (by decide +kernel)).tu rfl) rfl ?_
  refine zat ?_
  walk_at "r"
  refine za0 ((zpJ (c:=⟨[code],if 19968≤code then 2 else 1,s.pen⟩) I1 g ⟨by show (if 19968≤code then 2 else 1)=1∨(if 19968≤code then 2 else 1)=2; split <;> simp,by simp⟩ rfl (by simp) hn).tu rfl) rfl ?_
  rintro _ H2 ⟨rfl,s',I2,F2,sm,g2⟩
  walk_at "r"
  exact Run.nil ⟨rfl,s',I2,F1.trans F2,sm,by unfold zcx; rw [if_neg h0,if_neg q]; exact g2⟩
inductive PWr (s:Scr) (H:Hp) (k:Nat) (T:TS) (x:V) (H':Hp):Prop
 | mk (e:x=.none) (s':Scr) (I:Is H' s') (F:Frm s H s' H') (h1:s'.sc=s.sc) (h2:s'.rows=s.rows) (h3:s'.cols=s.cols) (h4:s'.pen=k) (g:zaV s' T)
theorem zpX {st:TS} (h:Is H s) (g:zaV s st) {code k:Nat} (hcode:code=0∨code=769∨(97≤code∧code≤122)∨(19968≤code∧code≤20000)) (hb:∀ c ∈ st.2,c.cs.length≤499) (hn:s.hist.length+1≤300) :
  zae W 13 (.ref 1524) [.ref s.sc,.int code,pn k] H (PWr s H k (zcx s.cols st (code,k))):=by
 refine zlv _ _ _ ?_
 unfold zgx
 have h1:=h.sc
 have h2:=h.cu
 unfold Scr.cuF at h2
 walk_at "r"
 refine zaq h2 rfl rfl ?_
 obtain ⟨s1,hs1⟩:∃ s1,s1=s.cuTo s.row s.col s.wait k:=⟨_,rfl⟩
 have I1:Is (zab H s.cu (.inst 976 s1.cuF)) s1:=by rw [hs1]; exact h.setCu s.row s.col s.wait k h.rb h.cb
 have F1:Frm s H s1 (zab H s.cu (.inst 976 s1.cuF)):=by rw [hs1]; exact Frm.set (zcs s) rfl
 rw [show zaF 25 (pn k) [(11,V.int s.row),(12,.int s.col),(13,.bool s.wait),(25,pn s.pen),(26,.bool false),(27,.bool false)]=s1.cuF by rw [hs1]; rfl]
 generalize zab H s.cu (.inst 976 s1.cuF)=H1 at *
 have e1:s1.sc=s.sc:=by rw [hs1]; rfl
 have e2:s1.rows=s.rows:=by rw [hs1]; rfl
 have e3:s1.cols=s.cols:=by rw [hs1]; rfl
 have e4:s1.pen=k:=by rw [hs1]; rfl
 have e5:s1.hist.length=s.hist.length:=by rw [hs1]; rfl
 have g1:zaV s1 st:=by rw [hs1]; exact ⟨⟨g.g.lv,g.g.first,g.g.row,g.g.col,g.g.wait,g.g.plen,g.g.wf⟩,g.sg⟩
 clear hs1
 have j1:=I1.sc
 unfold Scr.scF at j1
 rw [e1] at j1
 walk_at "r"
 by_cases q:code=0
 ·subst q
  refine r_t rfl ?_
  walk_at "c"
  refine zav ((show zae W 10 (.ref 1389) [.ref s.sc] H1 (PNx none s1 H1) by rw [← e1]; exact zpC I1 (zad (.i (.l (.a Va K1) (.k 300)) (.i (.e Vb Va) (.l (.a Vb K1) (.k 300)))) rfl hn e5)).tu rfl) rfl ?_
  rintro _ H2 ⟨rfl,s2,I2,F2,q0,n⟩
  walk_at "r"
  refine Run.nil ⟨rfl,s2,I2,F1.trans F2,n.same.sc.trans e1,n.same.rows.trans e2,n.same.cols.trans e3,n.same.pen.trans e4,?_⟩
  have:=zbZ.next (A:=st.ls.1) (p:=st.ls.2) I1 I2 g1.g n q0
  unfold zcx; rw [if_pos rfl]
  refine ⟨?_,by simp [nlT]⟩
  unfold TS.ls nlT at *
  simpa [zac] using this
 ·refine r_f (by simp; exact zag (.i (.n (.e Va K0)) (.n (.e Va K0))) rfl q) ?_
  walk_at "c"
  refine zas ((show zae W 12 (.ref 1284) [.ref s.sc,.int code] H1 (PGt s1 H1 (zcx s1.cols st (code,s1.pen))) by rw [← e1]; exact zpI I1 g1 q (hcode.resolve_left q) hb (zad (.i (.l (.a Va K1) (.k 300)) (.i (.e Vb Va) (.l (.a Vb K1) (.k 300)))) rfl hn e5)).tu rfl) rfl ?_
  rintro _ H2 ⟨rfl,s2,I2,F2,sm,g2⟩
  walk_at "r"
  rw [e3,e4] at g2
  exact Run.nil ⟨rfl,s2,I2,F1.trans F2,sm.sc.trans e1,sm.rows.trans e2,sm.cols.trans e3,sm.pen.trans e4,g2⟩
end
inductive zjM (l:List V) (H:Hp) (x:V) (H':Hp):Prop
 | mk (c:Nat) (e:x=.ref c) (g:H' c=some (.list l)) (E:Ext H H')
section
variable {W:Wx} {H:Hp}
theorem zjo {a:Nat} {p:List zaa} {k:Nat} (e:H a=some (.list ((p++List.replicate k zar).map zaa.v))) (hl:p.length+k≤900) (hp:∀ t c,p=t++[c]→c.isP=false) :
  zae W 2 (.ref 543) [.ref a] H (zd5 (p.map zaa.v) H):=by
 refine zlS _ ?_
 unfold zgR
 have hlen:((p++List.replicate k zar).map zaa.v).length=p.length+k:=by simp
 walk_at "r"
 rw [hlen]
 refine Run.whl (J:=fun n ρ H'=>H'=H∧n≤k∧ρ=[some (.ref a),some (.int ((p.length+n:Nat):Int))]) (B:=fun n ρ H'=>H'=H∧n+1≤k+1∧0 < n∧ρ=[some (.ref a),some (.int ((p.length+n:Nat):Int))])
  (N:=fun ρ H'=>H'=H∧ρ=[some (.ref a),some (.int ((p.length:Nat):Int))]) (Z:=fun _ _=>False) k ⟨rfl,Nat.le_refl _,rfl⟩ ?_ ?_ ?_ (fun _ _ z=>z.elim)
 ·rintro n ρ _ ⟨rfl,hn,rfl⟩
  walk_at "r"
  by_cases q:p.length+n=0
  ·refine r_f (decide_eq_false (zad (.i (.e (.a Va Vb) K0) (.n (.T K0 (.c (.a Va Vb))))) rfl q)) ?_
   walk_at "c"
   have:n=0:=by exact zad (.i (.e (.a Va Vb) K0) (.e Vb K0)) rfl q
   subst this
   exact Run.nil ⟨rfl,rfl,rfl⟩
  ·refine r_t (decide_eq_true (zad (.i (.n (.e (.a Va Vb) K0)) (.T K0 (.c (.a Va Vb)))) rfl q)) ?_
   walk_at "c"
   rw [show ((p.length+n:Nat):Int) - 1=((p.length+n - 1:Nat):Int) by exact zad (.i (.n (.e (.a Va Vb) K0)) (.E (.s (.c (.a Va Vb)) K1) (.c (.s (.a Va Vb) K1)))) rfl q]
   by_cases q0:n=0
   ·subst q0
    rcases List.eq_nil_or_concat p with rfl | ⟨t,c,rfl⟩
    ·simp at q
    ·rw [List.concat_eq_append] at *
     refine zaB e (zad (.i (.l (.a Va Vb) (.k 900)) (.A (.L (.g (.k 1000)) (.c (.s (.a Va K0) K1))) (.L (.c (.s (.a Va K0) K1)) (.k 1000)))) rfl hl) (x:=c.v) (zba (zbQ (by simp))) ?_
     refine zav ((zjf c).tu rfl) rfl ?_
     refine zat ?_
     rw [hp t c rfl]
     walk_at "r"
     exact Run.nil ⟨rfl,rfl,rfl⟩
   ·refine zaB e (zaj (.i (.l (.a Va Vb) (.k 900)) (.i (.l Vc Vb) (.A (.L (.g (.k 1000)) (.c (.s (.a Va Vc) K1))) (.L (.c (.s (.a Va Vc) K1)) (.k 1000))))) rfl hl hn) (x:=zar.v) (zba (zbQ (by
     rw [List.getElem?_append_right (by exact zad (.i (.n (.e Va K0)) (.l Vb (.s (.a Vb Va) K1))) rfl q0),List.getElem?_replicate,if_pos (by exact zaj (.i (.l Va Vb) (.i (.n (.e Va K0)) (.t (.s (.s (.a Vc Va) K1) Vc) Vb))) rfl hn q0)]))) ?_
    refine zav ((zjf zar).tu rfl) rfl ?_
    refine zat ?_
    walk_at "r"
    exact Run.nil ⟨rfl,rfl,by exact zad (.i (.l Va Vb) (.l (.a Va K1) (.a Vb K1))) rfl hn,by exact zag (.i (.n (.e Va K0)) (.t K0 Va)) rfl q0,rfl⟩
 ·rintro n ρ _ ⟨rfl,hn,h0,rfl⟩
  walk_at "r"
  exact Run.nil ⟨n - 1,by exact zag (.i (.t K0 Va) (.t (.s Va K1) Va)) rfl h0,rfl,by exact zad (.i (.l (.a Va K1) (.a Vb K1)) (.l (.s Va K1) Vb)) rfl hn,by rw [show ((p.length+n:Nat):Int) - 1=((p.length+(n - 1):Nat):Int) by exact zad (.i (.t K0 Va) (.E (.s (.c (.a Vb Va)) K1) (.c (.a Vb (.s Va K1))))) rfl h0]⟩
 ·rintro ρ _ ⟨rfl,rfl⟩
  walk_at "r"
  refine zbD none (some ((p.length:Nat):Int)) rfl rfl e (zaj (.i (.l (.a Va Vb) (.k 900)) (.i (.e Vc (.a Va Vb)) (.l Vc (.k 1000000)))) rfl hl hlen) (zcZ _ _) fun c H' f g E=>?_
  rw [← List.map_take,List.take_left] at g
  exact Run.ret ⟨c,rfl,f,g,E⟩
theorem zo5 {l:Ln} (h:zaD H l) (hl:l.cells.length≤900) {c:zaa} (hc:l.cells[0]?=some c):zae W 1 (.ref 550) [.ref l.a] H (is (.bool (c.w == 2)) H):=by
 refine zlT _ ?_
 unfold zgS
 have h1:=h.o
 have h2:=h.cs
 unfold lf at h1
 have hlt:=(List.getElem?_eq_some_iff.mp hc).1
 walk_at "r"
 refine r_t (decide_eq_true (by simp; exact zag (.i (.t K0 Va) (.t K0 Va)) rfl hlt)) ?_
 walk_at "c"
 refine zaB h2 (by decide) (x:=c.v) (zba (zbQ hc)) ?_
 walk_at "r"
 refine Run.ret ⟨?_,rfl⟩
 exact congrArg V.bool (zd6 c.w 2)
theorem zek {la:Nat} {ls:List Ln} {i:Nat} {l:Ln} (e:H la=some (.list (zah ls))) (hL:∀ l ∈ ls,zaD H l) (hi:ls[i]?=some l) (hn:ls.length≤900) (hc:0 < l.cells.length∧l.cells.length≤900) :
  zae W 1 (.ref 564) [.ref la,.int i] H (is (.bool (decide (i+1 < ls.length) && l.wr)) H):=by
 refine zlU _ _ ?_
 unfold zgT
 have hl:=hL l (List.mem_of_getElem? hi)
 have h1:=hl.o
 have h2:=hl.cs
 unfold lf at h1
 have hr:(zah ls).length=ls.length:=by simp [zah]
 have hlt:=(List.getElem?_eq_some_iff.mp hi).1
 walk_at "r"
 by_cases q:i+1 < ls.length
 ·refine r_f (decide_eq_false (zaj (.i (.e Va Vb) (.i (.t (.a Vc K1) Vb) (.n (.L (.c Va) (.a (.c Vc) K1))))) rfl hr q)) ?_
  walk_at "c"
  refine zaB e (zad (.i (.l Va (.k 900)) (.i (.t Vb Va) (.A (.L (.g (.k 1000)) (.c Vb)) (.L (.c Vb) (.k 1000))))) rfl hn hlt) (zbI hi) ?_
  walk_at "r"
  induction hw:l.wr with
  | false =>
   rw [hw] at h1
   refine r_t (by simp) ?_
   walk_at "c"
   refine Run.ret ⟨?_,rfl⟩
   simp
  | true =>
   rw [hw] at h1
   refine r_f (by simp) ?_
   walk_at "c"
   refine zaB e (zad (.i (.l Va (.k 900)) (.i (.t Vb Va) (.A (.L (.g (.k 1000)) (.c Vb)) (.L (.c Vb) (.k 1000))))) rfl hn hlt) (zbI hi) ?_
   walk_at "r"
   refine r_f (by simp; intro z; rw [z] at hc; simp at hc) ?_
   walk_at "c"
   refine zaB e (zad (.i (.l Va (.k 900)) (.i (.t Vb Va) (.A (.L (.g (.k 1000)) (.c Vb)) (.L (.c Vb) (.k 1000))))) rfl hn hlt) (zbI hi) ?_
   walk_at "r"
   obtain ⟨l',hi'⟩:∃ l',ls[i+1]?=some l':=⟨_,List.getElem?_eq_getElem q⟩
   have h1':=(hL l' (List.mem_of_getElem? hi')).o
   unfold lf at h1'
   rw [show (i:Int)+1=((i+1:Nat):Int) from rfl]
   refine zaB e (zad (.i (.l Va (.k 900)) (.i (.t Vb Va) (.A (.L (.g (.k 1000)) (.c (.a Vb K1))) (.L (.c (.a Vb K1)) (.k 1000))))) rfl hn hlt) (zbI hi') ?_
   walk_at "r"
   refine Run.ret ⟨?_,rfl⟩
   rw [decide_eq_true q]; rfl
 ·refine r_t (decide_eq_true (zaj (.i (.e Va Vb) (.i (.n (.t (.a Vc K1) Vb)) (.L (.c Va) (.a (.c Vc) K1)))) rfl hr q)) ?_
  walk_at "c"
  refine Run.ret ⟨?_,rfl⟩
  rw [decide_eq_false q]; rfl
theorem zpE {la:Nat} {ls:List Ln} {i:Nat} {l:Ln} (e:H la=some (.list (zah ls))) (hL:∀ l ∈ ls,zaD H l) (hi:ls[i]?=some l) (hn:ls.length≤900) {p:List zaa} {k:Nat} (hc:l.cells=p++List.replicate k zar) (hk:0 < p.length+k∧p.length+k≤900)
  (hp:∀ t c,p=t++[c]→c.isP=false) (hw:l.wr=false):zae W 3 (.ref 557) [.ref la,.int i] H (zd5 (p.map zaa.v) H):=by
 refine zhX _ _ ?_
 unfold zeF
 have hl:=hL l (List.mem_of_getElem? hi)
 have h1:=hl.o
 have h2:=hl.cs
 unfold lf at h1
 rw [hc] at h2
 have hlt:=(List.getElem?_eq_some_iff.mp hi).1
 walk_at "r"
 refine zaB e (zad (.i (.l Va (.k 900)) (.i (.t Vb Va) (.A (.L (.g (.k 1000)) (.c Vb)) (.L (.c Vb) (.k 1000))))) rfl hn hlt) (zbI hi) ?_
 walk_at "r"
 refine zas ((zek e hL hi hn (by rw [hc]; simp; exact zad (.i (.A (.t K0 (.a Va Vb)) (.l (.a Va Vb) (.k 900))) (.A (.t K0 (.a Va Vb)) (.l (.a Va Vb) (.k 900)))) rfl hk)).tu rfl) rfl ?_
 refine zat ?_
 rw [hw,Bool.and_false]
 walk_at "r"
 refine zav ((zjo h2 hk.2 hp).tu rfl) rfl ?_
 rintro _ H1 ⟨c,rfl,f,g,E⟩
 exact Run.ret ⟨c,rfl,f,g,E⟩
theorem zpF {la:Nat} {ls:List Ln} {i:Nat} {l l':Ln} (e:H la=some (.list (zah ls))) (hL:∀ l ∈ ls,zaD H l) (hi:ls[i]?=some l) (hi':ls[i+1]?=some l') (hn:ls.length≤900) {p:List zaa} {k:Nat} (hc:l.cells=p++List.replicate k zar) (hk:p.length+k≤900)
  (hp:∃ t c,p=t++[c]∧c.isB=false) (hw:l.wr=true) (hl':l'.cells.length≤900) (h01:k=0∨(k=1∧∃ c,l'.cells[0]?=some c∧c.w=2)):zae W 3 (.ref 557) [.ref la,.int i] H (zjM (p.map zaa.v) H):=by
 refine zhX _ _ ?_
 unfold zeF
 have hl:=hL l (List.mem_of_getElem? hi)
 have h1:=hl.o
 have h2:=hl.cs
 unfold lf at h1
 have hlt:=(List.getElem?_eq_some_iff.mp hi).1
 have hlt':=(List.getElem?_eq_some_iff.mp hi').1
 obtain ⟨t,c,rfl,hb⟩:=hp
 walk_at "r"
 refine zaB e (zad (.i (.l Va (.k 900)) (.i (.t Vb Va) (.A (.L (.g (.k 1000)) (.c Vb)) (.L (.c Vb) (.k 1000))))) rfl hn hlt) (zbI hi) ?_
 walk_at "r"
 refine zas ((zek e hL hi hn (by rw [hc]; simp; simp at hk; exact zad (.i (.l (.a (.a Va K1) Vb) (.k 900)) (.A (.t K0 (.a Va (.a Vb K1))) (.l (.a Va (.a Vb K1)) (.k 900)))) rfl hk)).tu rfl) rfl ?_
 refine zat ?_
 rw [hw,decide_eq_true hlt']
 walk_at "r"
 simp only [List.length_append,List.length_singleton] at hk
 rcases h01 with rfl | ⟨rfl,c',hc',hw'⟩
 ·rw [List.replicate_zero,List.append_nil] at hc
  rw [hc] at h2
  refine zaB h2 (by decide) (x:=c.v) (by unfold at?; rw [if_pos (by exact lin (.T (.g K1) K0) [] rfl),if_pos (by simp; exact zag (.L K1 (.a (.c Va) K1)) rfl),show ((-1:Int)+(((t++[c]).map zaa.v).length:Nat)).toNat=t.length by simp; exact zag (.e (.t (.a (.g K1) (.a (.c Va) K1))) Va) rfl]; exact zbQ (by simp)) ?_
  refine zav ((zje c).tu rfl) rfl ?_
  refine zat ?_
  rw [hb]
  walk_at "r"
  exact Run.ret ⟨l.c,rfl,h2,.rfl⟩
 ·rw [hc] at h2
  refine zaB h2 (by decide) (x:=zar.v) (by unfold at?; rw [if_pos (by exact lin (.T (.g K1) K0) [] rfl),if_pos (by simp; exact zag (.L K1 (.a (.c Va) K2)) rfl),show ((-1:Int)+(((t++[c]++List.replicate 1 zar).map zaa.v).length:Nat)).toNat=t.length+1 by simp; exact zag (.e (.t (.a (.g K1) (.a (.c Va) K2))) (.a Va K1)) rfl]; exact zbQ (by simp)) ?_
  refine zav ((zje zar).tu rfl) rfl ?_
  refine zat ?_
  refine Run.chk (r_t rfl ?_)
  walk_at "c"
  rw [show (i:Int)+1=((i+1:Nat):Int) from rfl]
  refine zaB e (zad (.i (.l Va (.k 900)) (.i (.t Vb Va) (.A (.L (.g (.k 1000)) (.c (.a Vb K1))) (.L (.c (.a Vb K1)) (.k 1000))))) rfl hn hlt) (zbI hi') ?_
  refine zav ((zo5 (hL l' (List.mem_of_getElem? hi')) hl' hc').tu rfl) rfl ?_
  refine zat ?_
  rw [hw']
  walk_at "r"
  refine zbD none (some (-1)) rfl rfl h2 (by simp; exact zag (.i (.l (.a (.a Va K1) K1) (.k 900)) (.l Va (.k 999998))) rfl hk) (znO _) fun c2 H' f g E=>?_
  refine Run.ret ⟨c2,rfl,?_,E⟩
  rw [g,← List.map_take,show ((t++[c]++List.replicate 1 zar).map zaa.v).length - 1=(t++[c]).length by simp,List.take_left]
end
noncomputable abbrev Gp:=List (List zaa) × List zaa
noncomputable def zap (g:Gp):List (List zaa × Bool):=g.1.map (fun p=>(p,true))++[(g.2,false)]
noncomputable def Gp.ps (g:Gp):List (List zaa):=g.1++[g.2]
noncomputable def zaP (n:Nat):List (List zaa)→List Nat
 | []=>[]
 | p::r=>n::zaP (n+(zac p).length) r
noncomputable def zaH (l:List Nat):List V:=l.map fun (n:Nat)=>V.int (n:Int)
set_option genInjectivity false in
set_option genSizeOf false in
structure LL where
 a:Nat
 b:Nat
 c:Nat
 f:Nat
 g:Gp
noncomputable def llF (f b c:Nat) (w:Bool):List (Nat × V):=[(8,.int f),(2,.str (S "single")),(9,.ref b),(0,.ref c),(10,.bool w)]
structure zcN (H:Hp) (l:LL):Prop where
 o:H l.a=some (.inst 532 (llF l.f l.b l.c true))
 b:H l.b=some (.list (zaH (zaP 0 l.g.ps)))
 c:H l.c=some (.list ((zac l.g.ps.flatten).map zaa.v))
theorem zcN.ext {H H':Hp} {l:LL} (h:zcN H l) (e:Ext H H'):zcN H' l:=⟨e _ _ h.o,e _ _ h.b,e _ _ h.c⟩
noncomputable def zbP (l:List LL):List V:=l.map fun x=>.ref x.a
structure zdc (cols:Nat) (P:List (List zaa × Bool)):Prop where
 len:∀ p ∈ P,(zac p.1).length≤cols
 sg:∀ p ∈ P,∀ c ∈ p.1,Sg c
 go:∀ i p,P[i]?=some (p,true)→p≠[]∧∃ p',P[i+1]?=some p'∧((zac p).length=cols∨((zac p).length+1=cols∧∃ c t,p'.1=c::t∧c.w=2))
theorem zev (n:Nat) (l m:List (List zaa)):zaP n (l++m)=zaP n l++zaP (n+(zac l.flatten).length) m:=by
 induction l generalizing n with
 | nil=>simp [zaP,zac]
 | cons p l ih=>simp only [List.cons_append,zaP,ih,List.flatten_cons,zaW,List.length_append,Nat.add_assoc]
theorem zin (l m:List Nat):zaH (l++m)=zaH l++zaH m:=by simp [zaH]
theorem zoO {c:zaa} (hc:Sg c):∃ q d,sgc c=q++[d]∧d.isB=false∧d.isP=false:=by
 unfold sgc
 rcases hc.1 with w | w
 ·have:c.cs.isEmpty=false:=by induction h:c.cs using List.casesOn with | nil=>exact absurd h hc.2 | cons _ _=>rfl
  exact ⟨[],c,by rw [if_neg (by exact zag (.i (.e Va K1) (.n (.e Va K2))) rfl w)]; rfl,by unfold zaa.isB; rw [this]; rfl,by unfold zaa.isP; rw [this]; rfl⟩
 ·exact ⟨[c],zbM c.k,by rw [if_pos w]; rfl,rfl,rfl⟩
theorem zhq {p:List zaa} (hp:∀ c ∈ p,Sg c) (h:p≠[]):∃ q d,zac p=q++[d]∧d.isB=false∧d.isP=false:=by
 rcases List.eq_nil_or_concat p with rfl | ⟨t,c,rfl⟩
 ·exact absurd rfl h
 ·rw [List.concat_eq_append] at hp ⊢
  obtain ⟨q,d,e,h1,h2⟩:=zoO (hp c (by simp))
  exact ⟨zac t++q,d,by rw [zaW,za1,e,List.append_assoc],h1,h2⟩
theorem zdf {c:zaa} {t:List zaa}:(zac (c::t))[0]?=some c:=by
 unfold zac sgc
 rw [List.flatMap_cons]
 split <;> rfl
theorem zj9 {q:List zaa} {d:zaa} {n:List Nat} (h:q.map zaa.v++[d].map zaa.v=zaH n):False:=by
 induction q using List.casesOn with
 | nil=>induction n using List.casesOn with
  | nil=>simp [zaH] at h
  | cons _ _=>simp [zaH,zaa.v] at h
 | cons _ _=>induction n using List.casesOn with
  | nil=>simp [zaH] at h
  | cons _ _=>simp [zaH,zaa.v] at h
theorem zco (n:Nat) (l:List (List zaa)):(zaP n l).length=l.length:=by
 induction l generalizing n with
 | nil=>rfl
 | cons p l ih=>simp [zaP,ih]
theorem zhp {cols:Nat} {l:List (List zaa)} (h:∀ p ∈ l,(zac p).length≤cols):(zac l.flatten).length≤cols * l.length:=by
 induction l with
 | nil=>simp [zac]
 | cons p l ih =>
  rw [List.flatten_cons,zaW,List.length_append,List.length_cons,Nat.mul_succ]
  have:=ih fun q hq=>h q (List.mem_cons_of_mem _ hq)
  have:=h p (by simp)
  lia
section
variable {W:Wx} {H:Hp}
inductive PLi (f a:Nat) (H:Hp) (x:V) (H':Hp):Prop
 | mk (e:x=.none) (b c:Nat) (h1:H b=none) (h2:H c=none) (h3:b≠c) (h4:H' a=some (.inst 532 (llF f b c true))) (h5:H' b=some (.list [])) (h6:H' c=some (.list [])) (kp:∀ y m,y≠a→H y=some m→H' y=some m)
inductive PLn (f:Nat) (H:Hp) (x:V) (H':Hp):Prop
 | mk (a b c:Nat) (e:x=.ref a) (h0:H a=none) (h1:H b=none) (h2:H c=none) (h3:b≠c) (h4:H' a=some (.inst 532 (llF f b c true))) (h5:H' b=some (.list [])) (h6:H' c=some (.list [])) (E:Ext H H')
theorem zoU {a:Nat} (f:Nat) (e:H a=some (.inst 532 [])):zae W 1 (.ref 501) [.ref a,.int f,.str (S "single")] H (PLi f a H):=by
 refine zlO _ _ _ ?_
 unfold zgN
 walk_at "r"
 refine zaq e rfl rfl ?_
 walk_at "r"
 refine zaq zai rfl rfl ?_
 rw [zaC]
 refine zc1 fun b hb=>?_
 have ba:b≠a:=fun z=>by rw [z,zai] at hb; injection hb
 have ab:=ba.symm
 have hb0:H b=none:=by rw [zao ba] at hb; exact hb
 walk_at "r"
 refine zaq (zak zai ab) rfl rfl ?_
 refine zc1 fun c hc=>?_
 have ca:c≠a:=fun z=>by rw [z,zai] at hc; injection hc
 have cb:c≠b:=fun z=>by rw [z,zao ba,zai] at hc; injection hc
 have hc0:H c=none:=by rw [zao ca,zao cb,zao ca] at hc; exact hc
 walk_at "r"
 refine zaq (zak zai ca.symm) rfl rfl ?_
 walk_at "r"
 refine zaq zai rfl rfl ?_
 refine Run.nil ⟨rfl,b,c,hb0,hc0,cb.symm,zai,?_,?_,fun y m hy hm=>?_⟩
 ·rw [zao ba,zao ba,zao cb.symm,zao ba,zai]
 ·rw [zao ca,zao ca,zai]
 ·have yb:y≠b:=zal hm hb0
  have yc:y≠c:=zal hm hc0
  rw [zao hy,zao hy,zao yc,zao hy,zao yb,zao hy]; exact hm
theorem zoV (f:Nat):zae W 2 (.ref 532) [.int f,.str (S "single")] H (PLn f H):=by
 refine zbw (f:=501) (by decide) fun a ha=>(zoU f zai).mono ?_
 rintro _ H' ⟨rfl,b,c,hb,hc,bc,h1,h2,h3,h4⟩
 have ba:b≠a:=fun z=>by rw [z,zai] at hb; injection hb
 have ca:c≠a:=fun z=>by rw [z,zai] at hc; injection hc
 rw [zao ba] at hb
 rw [zao ca] at hc
 exact ⟨rfl,a,b,c,rfl,ha,hb,hc,bc,h1,h2,h3,fun y m hm=>h4 y m (zal hm ha) (Ext.new ha _ _ hm)⟩
theorem zi3 {a b c x f:Nat} {w:Bool} {bl cl xl:List V} (e:H a=some (.inst 532 (llF f b c w))) (eb:H b=some (.list bl)) (ec:H c=some (.list cl)) (ex:H x=some (.list xl)) (hbc:b≠c) (hxb:x≠b) (hl:bl.length≤900∧cl.length+xl.length≤9000) :
  zae W 1 (.ref 508) [.ref a,.ref x] H (is .none (zab (zab H b (.list (bl++[.int cl.length]))) c (.list (cl++xl)))):=by
 refine zlP _ _ ?_
 unfold zgO
 unfold llF at e
 walk_at "r"
 refine zbl eb ?_
 walk_at "r"
 refine zbe eb (zaj (.i (.A (.l Va (.k 900)) (.l (.a Vb Vc) (.k 9000))) (.l Va (.k 1000000))) rfl hl) ?_
 have e':=zak e (zam e eb rfl) (m':=.list (bl++[.int cl.length]))
 have ec':=zak ec hbc.symm (m':=.list (bl++[.int cl.length]))
 have ex':=zak ex hxb (m':=.list (bl++[.int cl.length]))
 walk_at "r"
 refine zeh ec' ?_
 walk_at "r"
 refine zee ec' ex' (zaj (.i (.A (.l Va (.k 900)) (.l (.a Vb Vc) (.k 9000))) (.l (.a Vb Vc) (.k 1000000))) rfl hl) ?_
 walk_at "r"
 exact Run.nil ⟨rfl,rfl⟩
theorem zcU {G:List Gp} {done rest:List Gp} {g:Gp} (e:G=done++g::rest) (i:Nat) (hi:i < g.1.length+1):(G.flatMap zap)[(done.flatMap zap).length+i]?=(zap g)[i]?:=by
 subst e
 rw [List.flatMap_append,List.flatMap_cons,List.getElem?_append_right (by exact zad (.l Va (.a Va Vb)) rfl),Nat.add_sub_cancel_left,List.getElem?_append_left (by unfold zap; simp; exact zad (.i (.t Va (.a Vb K1)) (.t Va (.a Vb K1))) rfl hi)]
theorem zcI {g:Gp} {i:Nat} {p:List zaa} (h:g.1[i]?=some p):(zap g)[i]?=some (p,true):=by
 unfold zap
 have:=(List.getElem?_eq_some_iff.mp h).1
 rw [List.getElem?_append_left (by simpa using this),List.getElem?_map,h]; rfl
theorem zdn {g:Gp}:(zap g)[g.1.length]?=some (g.2,false):=by
 unfold zap
 rw [List.getElem?_append_right (by simp)]; simp
theorem zcV {cols:Nat} {ls:List Ln} {P:List (List zaa × Bool)} (h:ls.map (fun l=>(l.cells,l.wr))=P.map (fun q=>zaz cols (zac q.1,q.2))) {i:Nat} {p:List zaa} {w:Bool} (hi:P[i]?=some (p,w)) :
  ∃ l,ls[i]?=some l∧l.cells=zac p++List.replicate (cols - (zac p).length) zar∧l.wr=w:=by
 have:=congrArg (·[i]?) h
 simp only [List.getElem?_map,hi,Option.map_some] at this
 induction q:ls[i]? with
 | none=>rw [q] at this; injection this
 | some l =>
  rw [q] at this
  have:=Option.some.inj this
  exact ⟨l,rfl,congrArg Prod.fst this,congrArg Prod.snd this⟩
theorem zph {la a b c f cols:Nat} {ls:List Ln} {G done rest:List Gp} {g:Gp} {H1:Hp} {k:List I} {Q:Out→Prop} {x1:Option V} (hcols:2≤cols∧cols≤7) (hG:G=done++g::rest) (hv:ls.map (fun l=>(l.cells,l.wr))=(G.flatMap zap).map (fun q=>zaz cols (zac q.1,q.2))) (ok:zdc cols (G.flatMap zap)) (hn:ls.length≤400)
  (e:H1 la=some (.list (zah ls))) (hL:∀ l ∈ ls,zaD H1 l) (fa:H1 a=none) (fb:H1 b=none) (fc:H1 c=none) (bc:b≠c)
  {H2:Hp} (E:Ext H1 H2) (oa:H2 a=some (.inst 532 (llF f b c true))) (ob:H2 b=some (.list [])) (oc:H2 c=some (.list []))
  (fin:∀ H3,Ext H1 H3→H3 a=some (.inst 532 (llF f b c true))→H3 b=some (.list (zaH (zaP 0 g.1)))→H3 c=some (.list ((zac g.1.flatten).map zaa.v))→Run W 5 k [] [some (.ref la),x1,some (.int (((done.flatMap zap).length+g.1.length:Nat):Int)),some (.ref a)] H3 Q) :
  Run W 5 (.whl [.lit (.raw (.ref 564)),Y0,Y2,.call 2,.chk] [Y3,.mth 1,.lit (.raw (.ref 557)),Y0,Y2,.call 2,.call 2,.pop,Y2,(iI 1),.bin .Add,.sto 2]::k) [] [some (.ref la),x1,some (.int (((done.flatMap zap).length:Nat):Int)),some (.ref a)] H2 Q:=by
 have lenP:ls.length=(G.flatMap zap).length:=by have:=congrArg List.length hv; simpa using this
 have lenB:(done.flatMap zap).length+g.1.length < ls.length:=by
  rw [lenP,hG,List.flatMap_append,List.flatMap_cons,List.length_append,List.length_append]
  have:(zap g).length=g.1.length+1:=by simp [zap]
  exact zaG (.i (.e Va (.a Vb K1)) (.t (.a Vc Vb) (.a Vc (.a Va Vd)))) rfl this
 let St:Nat→Hp→Prop:=fun i H3=>Ext H1 H3∧H3 a=some (.inst 532 (llF f b c true))∧H3 b=some (.list (zaH (zaP 0 (g.1.take i))))∧H3 c=some (.list ((zac (g.1.take i).flatten).map zaa.v))
 refine Run.whl (J:=fun n ρ H3=>∃ i,n+i=g.1.length∧ρ=[some (.ref la),x1,some (.int (((done.flatMap zap).length+i:Nat):Int)),some (.ref a)]∧St i H3)
  (B:=fun n ρ H3=>∃ i,n+i=g.1.length∧0 < n∧ρ=[some (.ref la),x1,some (.int (((done.flatMap zap).length+i:Nat):Int)),some (.ref a)]∧St i H3)
  (N:=fun ρ H3=>ρ=[some (.ref la),x1,some (.int (((done.flatMap zap).length+g.1.length:Nat):Int)),some (.ref a)]∧St g.1.length H3) (Z:=fun _ _=>False) g.1.length ⟨0,by exact zag (.e (.a Va K0) Va) rfl,rfl,E,oa,ob,oc⟩ ?_ ?_ ?_ (fun _ _ z=>z.elim)
 ·rintro n ρ H3 ⟨i,hi,rfl,hS⟩
  have hP:=zcU hG i (zaj (.i (.e (.a Va Vb) Vc) (.t Vb (.a Vc K1))) rfl hi)
  walk_at "r"
  by_cases q:n=0
  ·have:i=g.1.length:=by exact zaj (.i (.e (.a Va Vb) Vc) (.i (.e Va K0) (.e Vb Vc))) rfl hi q
   subst this
   rw [zdn] at hP
   obtain ⟨l,h1,h2,h3⟩:=zcV hv hP
   have hp2:(zac g.2).length≤cols:=ok.len _ (List.mem_of_getElem? hP)
   refine zas ((zek (hS.1 _ _ e) (fun l hl=>(hL l hl).ext hS.1) h1 (zag (.i (.l Va (.k 400)) (.l Va (.k 900))) rfl hn) (by rw [h2]; simp; exact zad (.i (.A (.l K2 Va) (.l Va (.k 7))) (.i (.l Vb Va) (.A (.t K0 (.a Vb (.s Va Vb))) (.l (.a Vb (.s Va Vb)) (.k 900))))) rfl hcols hp2)).tu rfl) rfl ?_
   refine zat ?_
   rw [h3,Bool.and_false]
   walk_at "r"
   exact Run.nil ⟨rfl,rfl,hS⟩
  ·obtain ⟨p,hp⟩:∃ p,g.1[i]?=some p:=⟨_,List.getElem?_eq_getElem (show i < g.1.length by exact zaj (.i (.e (.a Va Vb) Vc) (.i (.n (.e Va K0)) (.t Vb Vc))) rfl hi q)⟩
   rw [zcI hp] at hP
   obtain ⟨l,h1,h2,h3⟩:=zcV hv hP
   have hp2:(zac p).length≤cols:=ok.len _ (List.mem_of_getElem? hP)
   refine zas ((zek (hS.1 _ _ e) (fun l hl=>(hL l hl).ext hS.1) h1 (zag (.i (.l Va (.k 400)) (.l Va (.k 900))) rfl hn) (by rw [h2]; simp; exact zad (.i (.A (.l K2 Va) (.l Va (.k 7))) (.i (.l Vb Va) (.A (.t K0 (.a Vb (.s Va Vb))) (.l (.a Vb (.s Va Vb)) (.k 900))))) rfl hcols hp2)).tu rfl) rfl ?_
   refine zat ?_
   rw [h3,Bool.and_true,decide_eq_true (show (done.flatMap zap).length+i+1 < ls.length by exact za6 (.i (.t (.a Va Vb) Vc) (.i (.e (.a Vd Ve) Vb) (.i (.n (.e Vd K0)) (.t (.a (.a Va Ve) K1) Vc)))) rfl lenB hi q)]
   walk_at "r"
   exact Run.nil ⟨rfl,i,hi,by exact zag (.i (.n (.e Va K0)) (.t K0 Va)) rfl q,rfl,hS⟩
 ·rintro n ρ H3 ⟨i,hi,h0,rfl,E3,oa3,ob3,oc3⟩
  have hP:=zcU hG i (zaj (.i (.e (.a Va Vb) Vc) (.t Vb (.a Vc K1))) rfl hi)
  obtain ⟨p,hp⟩:∃ p,g.1[i]?=some p:=⟨_,List.getElem?_eq_getElem (show i < g.1.length by exact zaj (.i (.e (.a Va Vb) Vc) (.i (.t K0 Va) (.t Vb Vc))) rfl hi h0)⟩
  rw [zcI hp] at hP
  obtain ⟨l,h1,h2,h3⟩:=zcV hv hP
  have pm:=List.mem_of_getElem? hP
  have hp2:(zac p).length≤cols:=ok.len _ pm
  obtain ⟨pne,p',hp',alt⟩:=ok.go _ p hP
  obtain ⟨l',h1',h2',h3'⟩:=zcV (p:=p'.1) (w:=p'.2) hv hp'
  have hp2':(zac p'.1).length≤cols:=ok.len _ (List.mem_of_getElem? hp')
  obtain ⟨q,d,hq,hd,_⟩:=zhq (ok.sg _ pm) pne
  walk_at "r1"
  have oa3':=oa3
  unfold llF at oa3'
  walk_at "r"
  refine zas ((zpF (E3 _ _ e) (fun l hl=>(hL l hl).ext E3) h1 h1' (zag (.i (.l Va (.k 400)) (.l Va (.k 900))) rfl hn) h2 (zad (.i (.A (.l K2 Va) (.l Va (.k 7))) (.i (.l Vb Va) (.l (.a Vb (.s Va Vb)) (.k 900)))) rfl hcols hp2) ⟨q,d,hq,hd⟩ h3 (by rw [h2']; simp; exact zad (.i (.A (.l K2 Va) (.l Va (.k 7))) (.i (.l Vb Va) (.l (.a Vb (.s Va Vb)) (.k 900)))) rfl hcols hp2') (by
   rcases alt with z | ⟨z,c0,t0,z2,z3⟩
   ·exact .inl (zad (.i (.e Va Vb) (.e (.s Vb Va) K0)) rfl z)
   ·refine .inr ⟨by exact zad (.i (.e (.a Va K1) Vb) (.e (.s Vb Va) K1)) rfl z,c0,?_,z3⟩
    rw [h2',z2,List.getElem?_append_left (by have:=zdf (c:=c0) (t:=t0); exact (List.getElem?_eq_some_iff.mp this).1)]
    exact zdf)).tu rfl) rfl ?_
  rintro _ H4 ⟨x,rfl,gx,E4⟩
  have xb:x≠b:=fun z=>by
   have ob4:=E4 _ _ ob3
   rw [← z,gx,hq,List.map_append] at ob4
   have:=Option.some.inj ob4
   simp only [MO.list.injEq] at this
   exact zj9 this
  have gl:(g.1.take i).length=i:=by simp; exact zaj (.i (.e (.a Va Vb) Vc) (.e (.m Vb Vc) Vb)) rfl hi
  refine zas ((zi3 (E4 _ _ oa3) (E4 _ _ ob3) (E4 _ _ oc3) gx bc xb ⟨by simp [zaH,zco]; exact zaG (.i (.l Va (.k 400)) (.i (.t (.a Vb Vc) Va) (.l (.m Vd Vc) (.k 900)))) rfl hn lenB,by
   have:=zhp (cols:=cols) (l:=g.1.take i) (fun p' hp'=>by
    obtain ⟨j,hj⟩:=List.getElem?_of_mem (List.mem_of_mem_take hp')
    have hj2:=zcU hG j (by have:=(List.getElem?_eq_some_iff.mp hj).1; exact zad (.i (.t Va Vb) (.t Va (.a Vb K1))) rfl this)
    rw [zcI hj] at hj2
    exact ok.len _ (List.mem_of_getElem? hj2))
   have g2:cols * (g.1.take i).length≤7 * 400:=Nat.mul_le_mul hcols.2 (zbO (.i (.l Va (.k 400)) (.i (.t (.a Vb Vc) Va) (.i (.e (.a Vd Ve) Vc) (.i (.e Vf Ve) (.l Vf (.k 400)))))) rfl hn lenB hi gl)
   simp only [List.length_map]; lia⟩).tu rfl) rfl ?_
  refine zat ?_
  walk_at "r"
  refine Run.nil ⟨n - 1,by exact zag (.i (.t K0 Va) (.t (.s Va K1) Va)) rfl h0,i+1,by exact zaj (.i (.e (.a Va Vb) Vc) (.i (.t K0 Va) (.e (.a (.s Va K1) (.a Vb K1)) Vc))) rfl hi h0,by rw [show (((done.flatMap zap).length+i:Nat):Int)+1=(((done.flatMap zap).length+(i+1):Nat):Int) by exact zad (.E (.a (.c (.a Va Vb)) K1) (.c (.a Va (.a Vb K1)))) rfl],?_,?_,?_,?_⟩
  ·exact ((E3.trans E4).upd fb).upd fc
  ·exact zak (zak (E4 _ _ oa3) (zam oa3 ob3 rfl)) (zam oa3 oc3 rfl)
  ·rw [zao bc,zai,List.take_add_one,hp]
   rw [show (some p).toList=[p] from rfl,zev,zin]
   simp [zaP,zaH]
  ·rw [zai,List.take_add_one,hp]
   rw [show (some p).toList=[p] from rfl,List.flatten_append,zaW]
   simp
 ·rintro ρ H3 ⟨rfl,E3,oa3,ob3,oc3⟩
  rw [List.take_length] at ob3 oc3
  exact fin H3 E3 oa3 ob3 oc3
end
structure LLs (H H2:Hp) (fo:Nat) (done:List Gp) (lls:List LL):Prop where
 g:lls.map (·.g)=done
 at_:∀ l ∈ lls,zcN H2 l
 fr:∀ l ∈ lls,H l.a=none∧H l.b=none∧H l.c=none
 ne:∀ l ∈ lls,l.b≠fo∧l.c≠fo∧l.b≠l.c
 f:∀ (i:Nat) (l:LL),lls[i]?=some l→l.f=((done.take i).flatMap zap).length
 ndc:(lls.map (·.c)).Nodup
 nbc:∀ l ∈ lls,∀ l' ∈ lls,l.b≠l'.c
theorem zia (d:List Gp):d.length≤(d.flatMap zap).length:=by
 induction d with
 | nil=>simp
 | cons y d ih =>
  simp only [List.flatMap_cons,List.length_append,List.length_cons]
  have:1≤(zap y).length:=by simp [zap]
  exact zaj (.i (.l Va Vb) (.i (.l K1 Vc) (.l (.a Va K1) (.a Vc Vb)))) rfl ih this
section
variable {W:Wx} {H:Hp}
inductive PLg (G:List Gp) (H:Hp) (x:V) (H':Hp):Prop
 | mk (fo:Nat) (lls:List LL) (e:x=.ref fo) (f:H fo=none) (g:H' fo=some (.list (zbP lls))) (L:LLs H H' fo G lls) (E:Ext H H')
inductive JLg (G:List Gp) (la fo:Nat) (St:List Gp→List LL→Hp→Prop) (n:Nat) (ρ:Ro) (H':Hp):Prop
 | mk (done rest:List Gp) (lls:List LL) (x3:Option V) (e:G=done++rest) (hr:rest.length=n) (hρ:ρ=[some (.ref la),some (.ref fo),some (.int (((done.flatMap zap).length:Nat):Int)),x3]) (st:St done lls H')
theorem zpu {la cols:Nat} {ls:List Ln} {G:List Gp} (hcols:2≤cols∧cols≤7) (hv:ls.map (fun l=>(l.cells,l.wr))=(G.flatMap zap).map (fun q=>zaz cols (zac q.1,q.2))) (ok:zdc cols (G.flatMap zap)) (hn:ls.length≤400)
  (e:H la=some (.list (zah ls))) (hL:∀ l ∈ ls,zaD H l):zae W 6 (.ref 571) [.ref la] H (PLg G H):=by
 refine zlV _ ?_
 unfold zgU
 have lenP:ls.length=(G.flatMap zap).length:=by have:=congrArg List.length hv; simpa using this
 have lrl:(zah ls).length=ls.length:=by simp [zah]
 refine zbk fun fo H0 f0 g0 E0=>?_
 walk_at "r"
 let St:List Gp→List LL→Hp→Prop:=fun done lls H2=>Ext H H2∧H2 fo=some (.list (zbP lls))∧LLs H H2 fo done lls
 let Jn:Nat→Ro→Hp→Prop:=JLg G la fo St
 refine Run.whl (J:=Jn) (B:=fun n ρ H2=>0 < n∧Jn n ρ H2) (N:=fun ρ H2=>Jn 0 ρ H2) (Z:=fun _ _=>False) G.length ⟨[],G,[],none,rfl,rfl,rfl,E0,g0,rfl,by simp,by simp,by simp,by simp,by simp,by simp⟩ ?_ ?_ ?_ (fun _ _ z=>z.elim)
 ·rintro n ρ H2 ⟨done,rest,lls,x3,hG,hr,rfl,E,hfo,L⟩
  have e2:=E _ _ e
  walk_at "r"
  have len:ls.length=(done.flatMap zap).length+(rest.flatMap zap).length:=by rw [lenP,hG,List.flatMap_append,List.length_append]
  by_cases q:n=0
  ·have:rest=[]:=List.eq_nil_of_length_eq_zero (zad (.i (.e Va Vb) (.i (.e Vb K0) (.e Va K0))) rfl hr q)
   subst this
   simp only [List.flatMap_nil,List.length_nil] at len
   rw [decide_eq_false (by exact zaj (.i (.e Va Vb) (.i (.e Vb (.a Vc K0)) (.n (.T (.c Vc) (.c Va))))) rfl lrl len)]
   exact Run.nil ⟨rfl,done,[],lls,x3,hG,rfl,rfl,E,hfo,L⟩
  ·obtain ⟨g,r,rfl⟩:∃ g r,rest=g::r:=by induction rest using List.casesOn with | nil=>exact absurd hr.symm q | cons g r=>exact ⟨g,r,rfl⟩
   have lg:(zap g).length=g.1.length+1:=by simp [zap]
   simp only [List.flatMap_cons,List.length_append,lg] at len
   rw [decide_eq_true (by exact za6 (.i (.e Va Vb) (.i (.e Vb (.a Vc (.a (.a Vd K1) Ve))) (.T (.c Vc) (.c Va)))) rfl lrl len)]
   exact Run.nil ⟨rfl,by exact zag (.i (.n (.e Va K0)) (.t K0 Va)) rfl q,done,g::r,lls,x3,hG,hr,rfl,E,hfo,L⟩
 ·rintro n ρ H1 ⟨h0,done,rest,lls,x3,hG,hr,rfl,E,hfo,L⟩
  obtain ⟨g,r,rfl⟩:∃ g r,rest=g::r:=by induction rest using List.casesOn with | nil=>simp at hr; lia | cons g r=>exact ⟨g,r,rfl⟩
  have e1:=E _ _ e
  have hL1:∀ l ∈ ls,zaD H1 l:=fun l hl=>(hL l hl).ext E
  have len:ls.length=(done.flatMap zap).length+(((g::r).flatMap zap)).length:=by rw [lenP,hG,List.flatMap_append,List.length_append]
  have lg:(zap g).length=g.1.length+1:=by simp [zap]
  simp only [List.flatMap_cons,List.length_append,lg] at len
  obtain ⟨q0,hq0⟩:∃ q0,(zap g)[0]?=some q0:=⟨_,List.getElem?_eq_getElem (zad (.i (.e Va (.a Vb K1)) (.t K0 Va)) rfl lg)⟩
  have hP0:=zcU hG 0 (zag (.t K0 (.a Va K1)) rfl)
  rw [hq0,Nat.add_zero] at hP0
  obtain ⟨l0,k1,_,_⟩:=zcV (p:=q0.1) (w:=q0.2) hv hP0
  have lo0:=(hL1 l0 (List.mem_of_getElem? k1)).o
  unfold lf at lo0
  walk_at "r"
  refine zaB e1 (zaG (.i (.l Va (.k 400)) (.i (.e Va (.a Vb (.a (.a Vc K1) Vd))) (.A (.L (.g (.k 1000)) (.c Vb)) (.L (.c Vb) (.k 1000))))) rfl hn len) (zbI k1) ?_
  walk_at "r"
  refine zas ((zoV (done.flatMap zap).length).tu rfl) rfl ?_
  rintro _ H2 ⟨a,b,c,rfl,fa,fb,fc,bc,oa,ob,oc,E2⟩
  walk_at "r"
  refine zph hcols hG hv ok hn e1 hL1 fa fb fc bc E2 oa ob oc fun H3 E3 oa3 ob3 oc3=>?_
  have hP:=zcU hG g.1.length (zag (.t Va (.a Va K1)) rfl)
  rw [zdn] at hP
  obtain ⟨l,k2,k3,k4⟩:=zcV hv hP
  have pm:=List.mem_of_getElem? hP
  have plen:(zac g.2).length≤cols:=ok.len _ pm
  have oa3':=oa3
  unfold llF at oa3'
  walk_at "r"
  refine zas ((zpE (E3 _ _ e1) (fun l hl=>(hL1 l hl).ext E3) k2 (zag (.i (.l Va (.k 400)) (.l Va (.k 900))) rfl hn) k3 (zad (.i (.A (.l K2 Va) (.l Va (.k 7))) (.i (.l Vb Va) (.A (.t K0 (.a Vb (.s Va Vb))) (.l (.a Vb (.s Va Vb)) (.k 900))))) rfl hcols plen) (by
   intro t d z
   by_cases ne:g.2=[]
   ·rw [ne] at z; simp [zac] at z
   ·obtain ⟨q,d',z1,_,z3⟩:=zhq (ok.sg _ pm) ne
    rw [z1] at z
    have:=(List.append_inj' z rfl).2
    simp at this; rw [← this]; exact z3) k4).tu rfl) rfl ?_
  rintro _ H4 ⟨x,rfl,fx,gx,E4⟩
  have xb:x≠b:=(zal ob3 fx).symm
  have bound:(zac g.1.flatten).length≤7 * 400:=by
   have:=zhp (cols:=cols) (l:=g.1) (fun p' hp'=>by
    obtain ⟨j,hj⟩:=List.getElem?_of_mem hp'
    have hj2:=zcU hG j (by have:=(List.getElem?_eq_some_iff.mp hj).1; exact zad (.i (.t Va Vb) (.t Va (.a Vb K1))) rfl this)
    rw [zcI hj] at hj2
    exact ok.len _ (List.mem_of_getElem? hj2))
   have g2:cols * g.1.length≤7 * 400:=Nat.mul_le_mul hcols.2 (zaG (.i (.l Va (.k 400)) (.i (.e Va (.a Vb (.a (.a Vc K1) Vd))) (.l Vc (.k 400)))) rfl hn len)
   exact zaj (.i (.l Va Vb) (.i (.l Vb Vc) (.l Va Vc))) rfl this g2
  refine zas ((zi3 (E4 _ _ oa3) (E4 _ _ ob3) (E4 _ _ oc3) gx bc xb ⟨by simp [zaH,zco]; exact zaG (.i (.l Va (.k 400)) (.i (.e Va (.a Vb (.a (.a Vc K1) Vd))) (.l Vc (.k 900)))) rfl hn len,by simp only [List.length_map]; lia⟩).tu rfl) rfl ?_
  refine zat ?_
  have E5:Ext H1 (zab (zab H4 b (.list (zaH (zaP 0 g.1)++[.int ((zac g.1.flatten).map zaa.v).length]))) c (.list ((zac g.1.flatten).map zaa.v++(zac g.2).map zaa.v))):=((E3.trans E4).upd fb).upd fc
  have oa5:=zak (zak (E4 _ _ oa3) (zam oa3 ob3 rfl) (m':=.list (zaH (zaP 0 g.1)++[.int ((zac g.1.flatten).map zaa.v).length]))) (zam oa3 oc3 rfl) (m':=.list ((zac g.1.flatten).map zaa.v++(zac g.2).map zaa.v))
  have ob5:zab (zab H4 b (.list (zaH (zaP 0 g.1)++[.int ((zac g.1.flatten).map zaa.v).length]))) c (.list ((zac g.1.flatten).map zaa.v++(zac g.2).map zaa.v)) b=some (.list (zaH (zaP 0 g.ps))):=by
   rw [zao bc,zai]
   unfold Gp.ps
   rw [zev,zin]; simp [zaP,zaH]
  have oc5:zab (zab H4 b (.list (zaH (zaP 0 g.1)++[.int ((zac g.1.flatten).map zaa.v).length]))) c (.list ((zac g.1.flatten).map zaa.v++(zac g.2).map zaa.v)) c=some (.list ((zac g.ps.flatten).map zaa.v)):=by
   rw [zai]
   unfold Gp.ps
   rw [List.flatten_append,zaW]; simp
  generalize zab (zab H4 b (.list (zaH (zaP 0 g.1)++[.int ((zac g.1.flatten).map zaa.v).length]))) c (.list ((zac g.1.flatten).map zaa.v++(zac g.2).map zaa.v))=H5 at *
  have e5:=E5 _ _ e1
  have lo5:=(hL1 l (List.mem_of_getElem? k2)).ext E5
  have lo5':=lo5.o
  unfold lf at lo5'
  walk_at "r"
  refine zaB e5 (zaG (.i (.l Va (.k 400)) (.i (.e Va (.a Vb (.a (.a Vc K1) Vd))) (.A (.L (.g (.k 1000)) (.c (.a Vb Vc))) (.L (.c (.a Vb Vc)) (.k 1000))))) rfl hn len) (zbI k2) ?_
  walk_at "r"
  rw [k4]
  unfold llF at oa5
  refine zaq oa5 rfl rfl ?_
  rw [zbE (show H5 a=some (.inst 532 (zaF 10 (.bool !false) [(8,.int ((done.flatMap zap).length:Nat)),(2,.str (S "single")),(9,.ref b),(0,.ref c),(10,.bool true)])) from oa5)]
  have hfo5:=E5 _ _ hfo
  walk_at "r"
  refine zbl hfo5 ?_
  walk_at "r"
  have ll1:lls.length≤400:=by
   have h1:lls.length=done.length:=by rw [← L.g]; simp
   have h2:=zia done
   exact zbO (.i (.l Va (.k 400)) (.i (.e Va (.a Vb (.a (.a Vc K1) Vd))) (.i (.e Ve Vf) (.i (.l Vf Vb) (.l Ve (.k 400)))))) rfl hn len h1 h2
  refine zbe hfo5 (by simp [zbP]; exact zag (.i (.l Va (.k 400)) (.l Va (.k 1000000))) rfl ll1) ?_
  walk_at "r"
  have fb0:=zaE E fb
  have fc0:=zaE E fc
  have fa0:=zaE E fa
  have kp:∀ y m,H5 y=some m→y≠fo→zab H5 fo (.list (zbP lls++[.ref a])) y=some m:=fun y m z q=>zak z q
  refine Run.nil ⟨n - 1,by exact zag (.i (.t K0 Va) (.t (.s Va K1) Va)) rfl h0,done++[g],r,lls++[⟨a,b,c,(done.flatMap zap).length,g⟩],some (.ref a),by rw [hG]; simp,by simp at hr; exact zad (.i (.e (.a Va K1) Vb) (.e Va (.s Vb K1))) rfl hr,?_,(E.trans E5).upd f0,?_,?_,fun y hy=>?_,fun y hy=>?_,fun y hy=>?_,fun i y hy=>?_,?_,fun y hy y' hy'=>?_⟩
  ·rw [List.flatMap_append,List.length_append]
   simp only [List.flatMap_cons,List.flatMap_nil,List.append_nil,lg]
   rw [show (((done.flatMap zap).length+g.1.length:Nat):Int)+1=(((done.flatMap zap).length+(g.1.length+1):Nat):Int) by exact zad (.E (.a (.c (.a Va Vb)) K1) (.c (.a Va (.a Vb K1)))) rfl]
  ·rw [zai]; simp [zbP]
  ·rw [List.map_append,L.g]; rfl
  ·rcases List.mem_append.mp hy with hy | hy
   ·have z:=(L.at_ y hy).ext E5
    exact ⟨kp _ _ z.o (zam z.o hfo5 rfl),kp _ _ z.b (L.ne y hy).1,kp _ _ z.c (L.ne y hy).2.1⟩
   ·rw [List.mem_singleton.mp hy]
    exact ⟨kp _ _ oa5 (zam oa5 hfo5 rfl),kp _ _ ob5 (zal hfo fb).symm,kp _ _ oc5 (zal hfo fc).symm⟩
  ·rcases List.mem_append.mp hy with hy | hy
   ·exact L.fr y hy
   ·rw [List.mem_singleton.mp hy]; exact ⟨fa0,fb0,fc0⟩
  ·rcases List.mem_append.mp hy with hy | hy
   ·exact L.ne y hy
   ·rw [List.mem_singleton.mp hy]; exact ⟨(zal hfo fb).symm,(zal hfo fc).symm,bc⟩
  ·have ld:lls.length=done.length:=by rw [← L.g]; simp
   by_cases q:i < lls.length
   ·rw [List.getElem?_append_left q] at hy
    rw [L.f i y hy,List.take_append_of_le_length (by exact zaj (.i (.e Va Vb) (.i (.t Vc Va) (.l Vc Vb))) rfl ld q)]
   ·rw [List.getElem?_append_right (by exact zad (.i (.n (.t Va Vb)) (.l Vb Va)) rfl q)] at hy
    have:i=lls.length:=by
     have:=(List.getElem?_eq_some_iff.mp hy).1
     simp at this; exact zad (.i (.n (.t Va Vb)) (.i (.e (.s Va Vb) K0) (.e Va Vb))) rfl q this
    subst this
    rw [Nat.sub_self] at hy
    have hy':some (⟨a,b,c,(done.flatMap zap).length,g⟩:LL)=some y:=hy
    rw [← Option.some.inj hy']
    show (done.flatMap zap).length=_
    rw [ld,List.take_left]
  ·rw [List.map_append,List.nodup_append]
   refine ⟨L.ndc,by simp,fun y hy z hz=>?_⟩
   obtain ⟨w,hw,rfl⟩:=List.mem_map.mp hy
   simp only [List.map_cons,List.map_nil,List.mem_singleton] at hz
   rw [hz]
   exact zal (L.at_ w hw).c fc
  ·rcases List.mem_append.mp hy with hy | hy <;> rcases List.mem_append.mp hy' with hy' | hy'
   ·exact L.nbc y hy y' hy'
   ·rw [List.mem_singleton.mp hy']; exact zal (L.at_ y hy).b fc
   ·rw [List.mem_singleton.mp hy]; exact (zal (L.at_ y' hy').c fb).symm
   ·rw [List.mem_singleton.mp hy,List.mem_singleton.mp hy']; exact bc
 ·rintro ρ H2 ⟨done,rest,lls,x3,hG,hr,rfl,E,hfo,L⟩
  have:rest=[]:=List.eq_nil_of_length_eq_zero hr
  subst this
  rw [List.append_nil] at hG
  subst hG
  walk_at "r"
  exact Run.ret ⟨fo,lls,rfl,f0,hfo,L,E⟩
end
noncomputable def Sw (c:zaa):Prop:=c.w=1∨c.w=2
theorem zbF {c:zaa} (h:Sw c):(sgc c).length=c.w:=by unfold sgc; rcases h with h | h <;> simp [h]
noncomputable def zaJ (cols:Nat) (g:Gp) (c:zaa):Gp:=if (zac g.2).length+c.w≤cols then (g.1,g.2++[c]) else (g.1++[g.2],[c])
noncomputable def cut (cols:Nat) (u:List zaa):Gp:=u.foldl (zaJ cols) ([],[])
noncomputable def plV (l:List (Nat × Nat)):List V:=l.map fun p=>.tup [.int (p.1:Nat),.int (p.2:Nat)]
noncomputable def za9 (cols:Nat) (p:List zaa):List zaa:=(zaz cols (zac p,false)).1
structure zca (cols:Nat) (H0 H:Hp) (ps pc pl:Nat) (qs:List Nat) (g:Gp) (places:List (Nat × Nat)):Prop where
 ext:Ext H0 H
 fps:H0 ps=none
 fpl:H0 pl=none
 fpc:H0 pc=none
 fqs:∀ q ∈ qs,H0 q=none
 hps:H ps=some (.list (qs.map V.ref))
 hpl:H pl=some (.list (plV places))
 hpc:H pc=some (.list ((zac g.2).map zaa.v))
 len:qs.length=g.1.length
 hqs:∀ (i:Nat) (q:Nat) (b:List zaa),qs[i]?=some q→g.1[i]?=some b→H q=some (.list ((za9 cols b).map zaa.v))
 n1:pc≠ps
 n2:pc≠pl
 n3:ps≠pl
 n4:ps ∉ qs
 n5:pl ∉ qs
 n6:pc ∉ qs
structure zdb (u:List zaa) (g:Gp) (places:List (Nat × Nat)):Prop where
 len:places.length=(zac u).length
 hd:∀ p,places[0]?=some p→p=(0,0)
 lst:u≠[]→places[places.length - 1]?=some (g.1.length,(zac g.2).length - 1)
section
variable {W:Wx} {H H0:Hp}
theorem zca.ext' {cols:Nat} {H':Hp} {ps pc pl:Nat} {qs:List Nat} {g:Gp} {places:List (Nat × Nat)} (h:zca cols H0 H ps pc pl qs g places) (e:Ext H H'):zca cols H0 H' ps pc pl qs g places:=
 ⟨h.ext.trans e,h.fps,h.fpl,h.fpc,h.fqs,e _ _ h.hps,e _ _ h.hpl,e _ _ h.hpc,h.len,fun i q b x y=>e _ _ (h.hqs i q b x y),h.n1,h.n2,h.n3,h.n4,h.n5,h.n6⟩
theorem zcv {l:List Nat} {a b:Nat} (h:a ∉ l) (hb:b ∈ l):b≠a:=fun z=>h (z ▸ hb)
theorem zku {cols ca ps pc pl pt at_:Nat} {qs:List Nat} {g:Gp} {places:List (Nat × Nat)} {c:zaa} {cv:Option V} {x9:Option V} {k:List I} {Q:Out→Prop} (h:zca cols H0 H ps pc pl qs g places) (hw:Sw c) (hpt:H pt=some (.list ((sgc c).map zaa.v))) (n7:pt≠pl) (n8:pt≠pc)
  (hb:qs.length≤900∧places.length≤9000∧(zac g.2).length≤900)
  (fin:∀ H' x9',zca cols H0 H' ps pc pl qs (g.1,g.2++[c]) (places++(List.range c.w).map fun i=>(g.1.length,(zac g.2).length+i))→Ext H0 H'→Run W 3 k [] [some (.ref ca),some (.int cols),some (.ref ps),some (.ref pc),some (.ref pl),some (.int ((at_+c.w:Nat):Int)),cv,some (.int c.w),some (.ref pt),x9'] H' Q) :
  Run W 3 (Y7::.fr .range 1 [.sto 9] [Y4,.mth 41,.lit (.raw (.builtin "len")),Y2,.call 1,.lit (.raw (.builtin "len")),Y3,.call 1,.lit (.raw (.builtin "min")),Y9,.lit (.raw (.builtin "len")),Y8,.call 1,(iI 1),.bin .Sub,.call 2,.bin .Add,.tup 2,.call 2,.pop]::Y3::.mth 42::Y8::.call 2::.pop::Y5::Y7::.bin .Add::.sto 5::k) []
   [some (.ref ca),some (.int cols),some (.ref ps),some (.ref pc),some (.ref pl),some (.int ((at_:Nat):Int)),cv,some (.int c.w),some (.ref pt),x9] H Q:=by
 have cw:=zbR hw
 have sl:=zbF hw
 let np:Nat→List (Nat × Nat):=fun i=>(List.range i).map fun i=>(g.1.length,(zac g.2).length+i)
 let Hi:Nat→Hp:=fun i=>zab H pl (.list (plV (places++np i)))
 refine Run.loc rfl ?_
 refine Run.fr (l:=(List.range c.w).map fun (i:Nat)=>V.int (i:Int)) (args:=[.int c.w]) (J:=fun i ρ H'=>(∃ x9',ρ=[some (.ref ca),some (.int cols),some (.ref ps),some (.ref pc),some (.ref pl),some (.int ((at_:Nat):Int)),cv,some (.int c.w),some (.ref pt),x9'])∧H'=Hi i) (Z:=fun _ _=>False) rfl rfl ⟨⟨x9,rfl⟩,?_⟩ (fun i ρ H' _ _=>⟨by exact zag (.L (.g (.k 1000)) (.c Va)) rfl,by exact zag (.i (.A (.l K1 Va) (.l Va K2)) (.L (.c Va) (.k 1000))) rfl cw,by simp⟩) ?_ ?_ (fun _ _ z=>z.elim)
 ·show H=zab H pl (.list (plV (places++[])))
  rw [List.append_nil]; exact (zbE h.hpl).symm
 ·rintro i x ρ H' hx ⟨⟨x9',rfl⟩,rfl⟩
  rw [List.getElem?_map] at hx
  have hi:i < c.w:=by
   by_cases q:i < c.w
   ·exact q
   ·rw [List.getElem?_eq_none (by simp; exact zad (.i (.n (.t Va Vb)) (.l Vb Va)) rfl q)] at hx; injection hx
  rw [List.getElem?_range hi] at hx
  (injection hx with hx; subst hx)
  have a1:Hi i pl=some (.list (plV (places++np i))):=zai
  have a2:Hi i ps=some (.list (qs.map V.ref)):=zak h.hps h.n3
  have a3:Hi i pc=some (.list ((zac g.2).map zaa.v)):=zak h.hpc h.n2
  have a4:Hi i pt=some (.list ((sgc c).map zaa.v)):=zak hpt n7
  have np_len:(np i).length=i:=by simp [np]
  walk_at "c"
  refine zbl a1 ?_
  walk_at "r"
  refine zbe a1 (by simp [plV,np_len]; exact za6 (.i (.A (.l Va (.k 900)) (.A (.l Vb (.k 9000)) (.l Vc (.k 900)))) (.i (.A (.l K1 Vd) (.l Vd K2)) (.i (.t Ve Vd) (.l (.a Vb Ve) (.k 1000000))))) rfl hb cw hi) ?_
  walk_at "r"
  refine Run.nil ⟨⟨_,rfl⟩,?_⟩
  show zab (Hi i) pl _=zab H pl _
  rw [show Hi i=zab H pl (.list (plV (places++np i))) from rfl,zaC]
  congr 2
  have e:np (i+1)=np i++[(g.1.length,(zac g.2).length+i)]:=by simp [np,List.range_succ]
  rw [e]
  unfold plV
  have e2:(((zac g.2).length:Nat):Int)+min (i:Int) ((c.w:Int) - 1)=(((zac g.2).length+i:Nat):Int):=by exact zaj (.i (.t Va Vb) (.E (.a (.c Vc) (.m (.c Va) (.s (.c Vb) K1))) (.c (.a Vc Va)))) rfl hi
  simp only [List.map_append,List.append_assoc,List.map_cons,List.map_nil,List.length_map,h.len,sl]
  rw [e2]
 ·rintro ρ H' ⟨⟨x9',rfl⟩,rfl⟩
  rw [List.length_map,List.length_range]
  have a1:Hi c.w pl=some (.list (plV (places++np c.w))):=zai
  have a2:Hi c.w ps=some (.list (qs.map V.ref)):=zak h.hps h.n3
  have a3:Hi c.w pc=some (.list ((zac g.2).map zaa.v)):=zak h.hpc h.n2
  have a4:Hi c.w pt=some (.list ((sgc c).map zaa.v)):=zak hpt n7
  have E1:Ext H0 (Hi c.w):=h.ext.upd h.fpl
  have a5:∀ (i:Nat) (q:Nat) (b:List zaa),qs[i]?=some q→g.1[i]?=some b→Hi c.w q=some (.list ((za9 cols b).map zaa.v)):=fun i q b x y=>zak (h.hqs i q b x y) (zcv h.n5 (List.mem_of_getElem? x))
  generalize Hi c.w=H1 at *
  walk_at "r"
  refine zeh a3 ?_
  walk_at "r"
  refine zee a3 a4 (by simp [sl]; exact zaG (.i (.A (.l Va (.k 900)) (.A (.l Vb (.k 9000)) (.l Vc (.k 900)))) (.i (.A (.l K1 Vd) (.l Vd K2)) (.l (.a Vc Vd) (.k 1000000)))) rfl hb cw) ?_
  walk_at "r"
  rw [show ((at_:Nat):Int)+(c.w:Int)=((at_+c.w:Nat):Int) from rfl]
  have E2:Ext H0 (zab H1 pc (.list ((zac g.2).map zaa.v++(sgc c).map zaa.v))):=E1.upd h.fpc
  refine fin _ _ ⟨E2,h.fps,h.fpl,h.fpc,h.fqs,zak a2 h.n1.symm,zak a1 h.n2.symm,?_,h.len,fun i q b x y=>zak (a5 i q b x y) (zcv h.n6 (List.mem_of_getElem? x)),h.n1,h.n2,h.n3,h.n4,h.n5,h.n6⟩ E2
  rw [zai]
  simp [zaW,za1]
theorem zkt {cols ca ps pc pl:Nat} {qs:List Nat} {g:Gp} {places:List (Nat × Nat)} {c:zaa} {a5 cv mv pv x9:Option V} {pt:Nat} {k:List I} {Q:Out→Prop} (hcols:2≤cols∧cols≤7) (h:zca cols H0 H ps pc pl qs g places) (hw:Sw c) (hpt:H pt=some (.list ((sgc c).map zaa.v))) (n7:pt≠pl) (n8:pt≠pc) (n9:pt≠ps)
  (hb:qs.length≤900∧(zac g.2).length≤cols)
  (fin:∀ H' pc' qs' g',zca cols H0 H' ps pc' pl qs' g' places→H' pt=some (.list ((sgc c).map zaa.v))→pt≠pc'→(g'.1,g'.2++[c])=zaJ cols g c→qs'.length≤qs.length+1→(zac g'.2).length≤cols→Run W 3 k [] [some (.ref ca),some (.int cols),some (.ref ps),some (.ref pc'),some (.ref pl),a5,cv,mv,some (.ref pt),x9] H' Q) :
  Run W 3 (.lit (.raw (.builtin "len"))::Y3::.call 1::.lit (.raw (.builtin "len"))::Y8::.call 1::.bin .Add::Y1::.cmp .Gt::.chk::.ite [.lit (.raw (.builtin "len")),Y3,.call 1,Y1,.cmp .Lt,.chk,.ite [Y3,.mth 41,.lit (.raw (.ref 76)),.lit (.tup [.int (0),.int (-1),.int (-1),.int (-1),.int 0]),.call 1,.call 2,.pop] [],Y2,.mth 41,Y3,.call 2,.pop,.lst 0,.sto 3] []::k) []
   [some (.ref ca),some (.int cols),some (.ref ps),some (.ref pc),some (.ref pl),a5,cv,mv,some (.ref pt),x9] H Q:=by
 have cw:=zbR hw
 have sl:=zbF hw
 have h1:=h.hpc
 walk_at "r"
 simp only [List.length_map,sl]
 by_cases q:(zac g.2).length+c.w≤cols
 ·refine r_f (decide_eq_false (zaj (.i (.l (.a Va Vb) Vc) (.n (.T (.c Vc) (.a (.c Va) (.c Vb))))) rfl q)) ?_
  rw [List.nil_append]
  exact fin H pc qs g h hpt n8 (by unfold zaJ; rw [if_pos q]) (zag (.l Va (.a Va K1)) rfl) hb.2
 ·refine r_t (decide_eq_true (zaj (.i (.n (.l (.a Va Vb) Vc)) (.T (.c Vc) (.a (.c Va) (.c Vb)))) rfl q)) ?_
  walk_at "c"
  simp only [List.length_map]
  have rest:∀ {H1:Hp},zca cols H0 H1 ps pc pl qs g places→True:=fun _=>trivial
  have go:∀ {H1:Hp},Ext H0 H1→H1 ps=some (.list (qs.map V.ref))→H1 pl=some (.list (plV places))→H1 pc=some (.list ((za9 cols g.2).map zaa.v))→H1 pt=some (.list ((sgc c).map zaa.v))→(∀ (i:Nat) (q:Nat) (b:List zaa),qs[i]?=some q→g.1[i]?=some b→H1 q=some (.list ((za9 cols b).map zaa.v))) →
    Run W 3 (Y2::.mth 41::Y3::.call 2::.pop::.lst 0::.sto 3::k) [] [some (.ref ca),some (.int cols),some (.ref ps),some (.ref pc),some (.ref pl),a5,cv,mv,some (.ref pt),x9] H1 Q:=by
   intro H1 E1 b1 b2 b3 b4 b5
   walk_at "r1"
   refine zbl b1 ?_
   walk_at "r"
   refine zbe b1 (by simp; exact zaj (.i (.A (.l Va (.k 900)) (.l Vb Vc)) (.l Va (.k 1000000))) rfl hb) ?_
   walk_at "r"
   have E2:Ext H0 (zab H1 ps (.list (qs.map V.ref++[.ref pc]))):=E1.upd h.fps
   have d1:zab H1 ps (.list (qs.map V.ref++[.ref pc])) ps=some (.list (qs.map V.ref++[.ref pc])):=zai
   have d2:=zak b2 h.n3.symm (m':=.list (qs.map V.ref++[.ref pc]))
   have d3:=zak b3 h.n1 (m':=.list (qs.map V.ref++[.ref pc]))
   have d4:=zak b4 n9 (m':=.list (qs.map V.ref++[.ref pc]))
   have d5:∀ (i:Nat) (q:Nat) (b:List zaa),qs[i]?=some q→g.1[i]?=some b→zab H1 ps (.list (qs.map V.ref++[.ref pc])) q=some (.list ((za9 cols b).map zaa.v)):=fun i q b x y=>zak (b5 i q b x y) (zcv h.n4 (List.mem_of_getElem? x))
   generalize zab H1 ps (.list (qs.map V.ref++[.ref pc]))=H2 at *
   refine zbk fun pc' H3 f3 g3 E3=>?_
   refine zbc rfl ?_
   simp only [List.set_cons_succ,List.set_cons_zero]
   refine fin H3 pc' (qs++[pc]) (g.1++[g.2],[]) ⟨E2.trans E3,h.fps,h.fpl,zaE E2 f3,fun y hy=>?_,by rw [E3 _ _ d1]; simp,E3 _ _ d2,g3,by simp [h.len],fun i y b hx hy=>?_,(zal d1 f3).symm,(zal d2 f3).symm,h.n3,?_,?_,?_⟩ (E3 _ _ d4) (zal d4 f3) (by unfold zaJ; rw [if_neg q]; rfl) (by simp) (Nat.zero_le _)
   ·rcases List.mem_append.mp hy with hy | hy
    ·exact h.fqs y hy
    ·rw [List.mem_singleton.mp hy]; exact h.fpc
   ·by_cases q2:i < qs.length
    ·rw [List.getElem?_append_left q2] at hx
     rw [List.getElem?_append_left (by rw [← h.len]; exact q2)] at hy
     exact E3 _ _ (d5 i y b hx hy)
    ·rw [List.getElem?_append_right (by exact zad (.i (.n (.t Va Vb)) (.l Vb Va)) rfl q2)] at hx
     rw [List.getElem?_append_right (by rw [← h.len]; exact zad (.i (.n (.t Va Vb)) (.l Vb Va)) rfl q2)] at hy
     have:i=qs.length:=by have:=(List.getElem?_eq_some_iff.mp hx).1; simp at this; exact zad (.i (.n (.t Va Vb)) (.i (.e (.s Va Vb) K0) (.e Va Vb))) rfl q2 this
     subst this
     rw [Nat.sub_self] at hx
     rw [h.len,Nat.sub_self] at hy
     cases (show some pc=some y from hx)
     cases (show some g.2=some b from hy)
     exact E3 _ _ d3
   ·simp only [List.mem_append,List.mem_singleton,not_or]; exact ⟨h.n4,h.n1.symm⟩
   ·simp only [List.mem_append,List.mem_singleton,not_or]; exact ⟨h.n5,h.n2.symm⟩
   ·simp only [List.mem_append,List.mem_singleton,not_or]
    refine ⟨fun z=>?_,(zal d3 f3).symm⟩
    obtain ⟨i,hi⟩:=List.getElem?_of_mem z
    obtain ⟨b,hb'⟩:∃ b,g.1[i]?=some b:=⟨_,List.getElem?_eq_getElem (by have:=(List.getElem?_eq_some_iff.mp hi).1; rw [← h.len]; exact this)⟩
    rw [d5 i pc' b hi hb'] at f3; injection f3
  by_cases q3:(zac g.2).length < cols
  ·refine r_t (decide_eq_true (zad (.i (.t Va Vb) (.T (.c Va) (.c Vb))) rfl q3)) ?_
   walk_at "c"
   refine zbl h1 ?_
   walk_at "r"
   refine zav ((zfC 0).tu rfl) rfl ?_
   refine zat ?_
   refine zbe h1 (by simp; exact zaj (.i (.A (.l K2 Va) (.l Va (.k 7))) (.i (.A (.l Vb (.k 900)) (.l Vc Va)) (.l Vc (.k 1000000)))) rfl hcols hb) ?_
   refine Run.pop ?_
   refine go (h.ext.upd h.fpc) (zak h.hps h.n1.symm) (zak h.hpl h.n2.symm) ?_ (zak hpt n8) fun i y b hx hy=>zak (h.hqs i y b hx hy) (zcv h.n6 (List.mem_of_getElem? hx))
   rw [zai]
   unfold za9 zaz
   rw [show cols - (zac g.2,false).1.length=1 by show cols - (zac g.2).length=1; exact zaj (.i (.A (.l K1 Va) (.l Va K2)) (.i (.n (.l (.a Vb Va) Vc)) (.i (.t Vb Vc) (.e (.s Vc Vb) K1)))) rfl cw q q3]
   simp
  ·refine r_f (decide_eq_false (zad (.i (.n (.t Va Vb)) (.n (.T (.c Va) (.c Vb)))) rfl q3)) ?_
   rw [List.nil_append]
   refine go h.ext h.hps h.hpl ?_ hpt h.hqs
   rw [h1]
   unfold za9 zaz
   rw [show cols - (zac g.2,false).1.length=0 by show cols - (zac g.2).length=0; exact zad (.i (.n (.t Va Vb)) (.e (.s Vb Va) K0)) rfl q3]
   simp
end
noncomputable def zdt (cols:Nat) (u:List zaa):List (List zaa):=(cut cols u).1.map (za9 cols)++[zac (cut cols u).2]
structure CutR (cols:Nat) (u:List zaa) (H H':Hp) (ps pl:Nat) (qs:List Nat) (places:List (Nat × Nat)):Prop where
 ext:Ext H H'
 hps:H' ps=some (.list (qs.map V.ref))
 hpl:H' pl=some (.list (plV places))
 len:qs.length=(zdt cols u).length
 hqs:∀ (i:Nat) (q:Nat) (b:List zaa),qs[i]?=some q→(zdt cols u)[i]?=some b→H' q=some (.list (b.map zaa.v))
 pk:zdb u (cut cols u) places
 fr:H ps=none∧H pl=none∧∀ q ∈ qs,H q=none
theorem zcc (cols:Nat) (u:List zaa) (c:zaa):cut cols (u++[c])=zaJ cols (cut cols u) c:=by unfold cut; rw [List.foldl_append]; rfl
theorem zcT {cols:Nat} (hc:2≤cols) (u:List zaa) (hu:∀ c ∈ u,Sw c):(zac (cut cols u).2).length≤cols:=by
 rcases List.eq_nil_or_concat u with rfl | ⟨t,c,rfl⟩
 ·exact Nat.zero_le _
 ·rw [List.concat_eq_append] at hu ⊢
  rw [zcc]
  have hw:=hu c (by simp)
  unfold zaJ
  split
  ·rename_i q; show (zac ((cut cols t).2++[c])).length≤cols
   rw [zaW,za1,List.length_append,zbF hw]; exact q
  ·show (zac [c]).length≤cols
   rw [za1,zbF hw]
   rcases hw with q | q <;> lia
theorem znH {cols:Nat} {done:List zaa} {c:zaa} {g':Gp} {places:List (Nat × Nat)} (hcols:2≤cols) (hw:Sw c) (h:zdb done (cut cols done) places) (eg:(g'.1,g'.2++[c])=zaJ cols (cut cols done) c):zdb (done++[c]) (cut cols (done++[c])) (places++(List.range c.w).map fun i=>(g'.1.length,(zac g'.2).length+i)):=by
 have cw:=zbR hw
 have sl:=zbF hw
 have el:(places++(List.range c.w).map fun i=>(g'.1.length,(zac g'.2).length+i)).length=(zac done).length+c.w:=by simp [h.len]
 refine ⟨by rw [el,zaW,za1,List.length_append,sl],fun p hp=>?_,fun _=>?_⟩
 ·by_cases q:0 < places.length
  ·rw [List.getElem?_append_left q] at hp; exact h.hd p hp
  ·have d0:done=[]:=by
    induction done using List.casesOn with
    | nil=>rfl
    | cons y d =>
     have:=h.len
     unfold zac at this
     rw [List.flatMap_cons,List.length_append] at this
     have:0 < (sgc y).length:=by unfold sgc; split <;> simp
     lia
   subst d0
   have:zaJ cols (cut cols []) c=([],[c]):=by
    show zaJ cols ([],[]) c=_
    unfold zaJ
    rw [if_pos (by simp [zac]; exact zad (.i (.l K2 Va) (.i (.A (.l K1 Vb) (.l Vb K2)) (.l Vb Va))) rfl hcols cw)]; rfl
   rw [this] at eg
   have e1:=congrArg Prod.fst eg
   have e2:=congrArg Prod.snd eg
   dsimp only at e1 e2
   have e3:g'.2=[]:=by induction hg:g'.2 using List.casesOn with | nil=>rfl | cons y d=>rw [hg] at e2; simp at e2
   rw [List.getElem?_append_right (by exact zag (.i (.n (.t K0 Va)) (.l Va K0)) rfl q),show 0 - places.length=0 by exact zag (.e (.s K0 Va) K0) rfl,e1,e3] at hp
   rw [List.getElem?_map,List.getElem?_range (by exact zag (.i (.A (.l K1 Va) (.l Va K2)) (.t K0 Va)) rfl cw)] at hp
   simpa [zac] using hp.symm
 ·rw [el,List.getElem?_append_right (by rw [h.len]; exact zad (.i (.A (.l K1 Va) (.l Va K2)) (.l Vb (.s (.a Vb Va) K1))) rfl cw),h.len,show (zac done).length+c.w - 1 - (zac done).length=c.w - 1 by exact zad (.e (.s (.s (.a Va Vb) K1) Va) (.s Vb K1)) rfl,List.getElem?_map,List.getElem?_range (by exact zag (.i (.A (.l K1 Va) (.l Va K2)) (.t (.s Va K1) Va)) rfl cw),zcc,← eg]
  simp only [Option.map_some,zaW,za1,List.length_append,sl]
  congr 2
  exact zad (.i (.A (.l K1 Va) (.l Va K2)) (.e (.a Vb (.s Va K1)) (.s (.a Vb Va) K1))) rfl cw
section
variable {W:Wx} {H:Hp}
inductive PCv (cols:Nat) (u:List zaa) (H:Hp) (x:V) (H':Hp):Prop
 | mk (ps pl:Nat) (qs:List Nat) (places:List (Nat × Nat)) (e:x=.tup [.ref ps,.ref pl]) (r:CutR cols u H H' ps pl qs places)
inductive JCv (cols ca ps pl:Nat) (u:List zaa) (H:Hp) (n:Nat) (ρ:Ro) (H':Hp):Prop
 | mk (done rest:List zaa) (pc:Nat) (qs:List Nat) (places:List (Nat × Nat)) (x6 x7 x8 x9:Option V) (e:u=done++rest) (hr:rest.length=n) (hρ:ρ=[some (.ref ca),some (.int cols),some (.ref ps),some (.ref pc),some (.ref pl),some (.int ((zac done).length:Nat)),x6,x7,x8,x9])
  (st:zca cols H H' ps pc pl qs (cut cols done) places) (ok:zdb done (cut cols done) places) (hq:qs.length≤done.length)
theorem zej {cols ca:Nat} {u:List zaa} (hcols:2≤cols∧cols≤7) (e:H ca=some (.list ((zac u).map zaa.v))) (hu:∀ c ∈ u,Sw c) (hn:u.length≤300∧(zac u).length≤800):zae W 4 (.ref 578) [.ref ca,.int cols] H (PCv cols u H):=by
 refine zlW _ _ ?_
 unfold zgV
 refine zbk fun ps H1 f1 g1 E1=>?_
 refine zbk fun pc H2 f2 g2 E2=>?_
 refine zbk fun pl H3 f3 g3 E3=>?_
 have p2:=E2 _ _ g1
 have p3:=E3 _ _ p2
 have c3:=E3 _ _ g2
 have E03:=(E1.trans E2).trans E3
 refine Run.lit ?_
 refine Run.tup (l:=[.ref ps,.ref pc,.ref pl,.int 0]) rfl (lin (.l (.k 4) (.k 1000)) [] rfl) rfl ?_
 refine Run.unp (l:=[.ref ps,.ref pc,.ref pl,.int 0]) rfl ?_
 rw [List.cons_append,List.cons_append,List.cons_append,List.cons_append,List.nil_append]
 walk_at "r"
 let Jn:Nat→Ro→Hp→Prop:=JCv cols ca ps pl u H
 refine Run.whl (J:=Jn) (B:=fun n ρ H'=>0 < n∧Jn n ρ H') (N:=fun ρ H'=>Jn 0 ρ H') (Z:=fun _ _=>False) u.length ⟨[],u,pc,[],[],none,none,none,none,rfl,rfl,rfl,⟨E03,f1,zaE (E1.trans E2) f3,zaE E1 f2,by simp,p3,g3,c3,rfl,by simp,(zal g1 f2).symm,zal g2 f3,zal p2 f3,by simp,by simp,by simp⟩,⟨rfl,by simp,fun z=>absurd rfl z⟩,Nat.le_refl _⟩ ?_ ?_ ?_ (fun _ _ z=>z.elim)
 ·rintro n ρ H' ⟨done,rest,pc,qs,places,x6,x7,x8,x9,hU,hr,rfl,C,P,hq⟩
  have e':=C.ext _ _ e
  have len:(zac u).length=(zac done).length+(zac rest).length:=by rw [hU,zaW,List.length_append]
  walk_at "r"
  simp only [List.length_map]
  by_cases q:n=0
  ·have:rest=[]:=List.eq_nil_of_length_eq_zero (zad (.i (.e Va Vb) (.i (.e Vb K0) (.e Va K0))) rfl hr q)
   subst this
   rw [decide_eq_false (by simp [zac] at len; simp [zac]; exact zad (.i (.e Va Vb) (.l Va Vb)) rfl len)]
   exact Run.nil ⟨rfl,done,[],pc,qs,places,x6,x7,x8,x9,hU,rfl,rfl,C,P,hq⟩
  ·obtain ⟨c,r,rfl⟩:∃ c r,rest=c::r:=by induction rest using List.casesOn with | nil=>exact absurd hr.symm q | cons c r=>exact ⟨c,r,rfl⟩
   have:0 < (zac (c::r)).length:=by have:=zdf (c:=c) (t:=r); exact (List.getElem?_eq_some_iff.mp this).1
   rw [decide_eq_true (by exact zaj (.i (.e Va (.a Vb Vc)) (.i (.t K0 Vc) (.T (.c Vb) (.c Va)))) rfl len this)]
   exact Run.nil ⟨rfl,by exact zag (.i (.n (.e Va K0)) (.t K0 Va)) rfl q,done,c::r,pc,qs,places,x6,x7,x8,x9,hU,hr,rfl,C,P,hq⟩
 ·rintro n ρ H' ⟨h0,done,rest,pc,qs,places,x6,x7,x8,x9,hU,hr,rfl,C,P,hq⟩
  obtain ⟨c,r,rfl⟩:∃ c r,rest=c::r:=by induction rest using List.casesOn with | nil=>simp at hr; lia | cons c r=>exact ⟨c,r,rfl⟩
  have hw:Sw c:=hu c (by rw [hU]; simp)
  have cw:=zbR hw
  have sl:=zbF hw
  have e':=C.ext _ _ e
  have eu:zac u=zac done++(sgc c++zac r):=by rw [hU,zaW]; rfl
  have len:(zac u).length=(zac done).length+(c.w+(zac r).length):=by rw [eu,List.length_append,List.length_append,sl]
  have at0:(zac u)[(zac done).length]?=some c:=by
   rw [eu,List.getElem?_append_right (by exact zag (.l Va Va) rfl),Nat.sub_self]; unfold sgc; split <;> rfl
  have part:((zac u).map zaa.v).drop (zac done).length=(sgc c++zac r).map zaa.v:=by rw [← List.map_drop,eu,List.drop_left]
  have partw:(((zac u).map zaa.v).drop (zac done).length).take ((zac done).length+c.w - (zac done).length)=(sgc c).map zaa.v:=by
   rw [part,Nat.add_sub_cancel_left,← List.map_take,show c.w=(sgc c).length from sl.symm,List.take_left]
  have dl:done.length≤300:=by have:=congrArg List.length hU; simp at this; exact zaG (.i (.A (.l Va (.k 300)) (.l Vb (.k 800))) (.i (.e Va (.a Vc (.a Vd K1))) (.l Vc (.k 300)))) rfl hn this
  have cl:=zcT (cols:=cols) hcols.1 done (fun y hy=>hu y (by rw [hU]; simp [hy]))
  have rest:∀ {x8 x9:Option V},Run W 3 [I.loc 0,Y5,Y5,Y7,.bin .Add,.slc,.sto 8,Y7,Y1,.cmp .Gt,.chk,.ite [iT] [Y7,(iI 1),.cmp .Eq,.chk,.ite [Y6,(iI 1),.idx,(iI 1),.cmp .NotEq,.chk] [iF]],.ite [.lit (.raw (.ref 76)),Y6,(iI 2),.idx,.call 1,.lst 1,.sto 8] [],.lit (.raw (.builtin "len")),Y3,.call 1,.lit (.raw (.builtin "len")),Y8,.call 1,.bin .Add,Y1,.cmp .Gt,.chk,.ite [.lit (.raw (.builtin "len")),Y3,.call 1,Y1,.cmp .Lt,.chk,.ite [Y3,.mth 41,.lit (.raw (.ref 76)),.lit (.tup [.int (0),.int (-1),.int (-1),.int (-1),.int 0]),.call 1,.call 2,.pop] [],Y2,.mth 41,Y3,.call 2,.pop,.lst 0,.sto 3] [],Y7,.fr .range 1 [.sto 9] [Y4,.mth 41,.lit (.raw (.builtin "len")),Y2,.call 1,.lit (.raw (.builtin "len")),Y3,.call 1,.lit (.raw (.builtin "min")),Y9,.lit (.raw (.builtin "len")),Y8,.call 1,(iI 1),.bin .Sub,.call 2,.bin .Add,.tup 2,.call 2,.pop],Y3,.mth 42,Y8,.call 2,.pop,Y5,Y7,.bin .Add,.sto 5] []
    [some (.ref ca),some (.int cols),some (.ref ps),some (.ref pc),some (.ref pl),some (.int ((zac done).length:Nat)),some c.v,some (.int c.w),x8,x9] H' (fun o=>match o with | .nxt [] ρ' H'=>∃ m,m < n∧Jn m ρ' H' | .ret v H'=>False | _=>False):=by
   intro x8 x9
   walk_at "r"
   refine zbD (some ((zac done).length:Nat)) (some (((zac done).length+c.w:Nat):Int)) rfl (by simp [zbA]) e' (by simp; exact zad (.i (.A (.l Va (.k 300)) (.l Vb (.k 800))) (.l Vb (.k 1000000))) rfl hn) ((zea _ _ _).trans partw) fun pt H4 f4 g4 E4=>?_
   have C4:=C.ext' E4
   have n7:=zal C.hpl f4
   have n8:=zal C.hpc f4
   have n9:=zal C.hps f4
   walk_at "r"
   refine r_f (decide_eq_false (zad (.i (.A (.l K2 Va) (.l Va (.k 7))) (.i (.A (.l K1 Vb) (.l Vb K2)) (.n (.T (.c Va) (.c Vb))))) rfl hcols cw)) ?_
   walk_at "c"
   have tl:Run W 3 [.lit (.raw (.builtin "len")),Y3,.call 1,.lit (.raw (.builtin "len")),Y8,.call 1,.bin .Add,Y1,.cmp .Gt,.chk,.ite [.lit (.raw (.builtin "len")),Y3,.call 1,Y1,.cmp .Lt,.chk,.ite [Y3,.mth 41,.lit (.raw (.ref 76)),.lit (.tup [.int (0),.int (-1),.int (-1),.int (-1),.int 0]),.call 1,.call 2,.pop] [],Y2,.mth 41,Y3,.call 2,.pop,.lst 0,.sto 3] [],Y7,.fr .range 1 [.sto 9] [Y4,.mth 41,.lit (.raw (.builtin "len")),Y2,.call 1,.lit (.raw (.builtin "len")),Y3,.call 1,.lit (.raw (.builtin "min")),Y9,.lit (.raw (.builtin "len")),Y8,.call 1,(iI 1),.bin .Sub,.call 2,.bin .Add,.tup 2,.call 2,.pop],Y3,.mth 42,Y8,.call 2,.pop,Y5,Y7,.bin .Add,.sto 5] []
     [some (.ref ca),some (.int cols),some (.ref ps),some (.ref pc),some (.ref pl),some (.int ((zac done).length:Nat)),some c.v,some (.int c.w),some (.ref pt),x9] H4 (fun o=>match o with | .nxt [] ρ' H'=>∃ m,m < n∧Jn m ρ' H' | .ret v H'=>False | _=>False):=by
    refine zkt (pv:=none) hcols C4 hw g4 n7.symm n8.symm n9.symm ⟨by exact zad (.i (.l Va Vb) (.i (.l Vb (.k 300)) (.l Va (.k 900)))) rfl hq dl,cl⟩ fun H5 pc' qs' g' C5 g5 n5 eg ql gl=>?_
    refine zku C5 hw g5 n7.symm n5 ⟨by exact zaj (.i (.l Va Vb) (.i (.l Vb (.k 300)) (.i (.l Vc (.a Va K1)) (.l Vc (.k 900))))) rfl hq dl ql,by rw [P.len]; exact za6 (.i (.A (.l Va (.k 300)) (.l Vb (.k 800))) (.i (.e Vb (.a Vc (.a Vd Ve))) (.l Vc (.k 9000)))) rfl hn len,by exact zad (.i (.A (.l K2 Va) (.l Va (.k 7))) (.i (.l Vb Va) (.l Vb (.k 900)))) rfl hcols gl⟩ fun H6 x9' C6 E6=>?_
    rw [eg,← zcc] at C6
    exact Run.nil ⟨n - 1,by exact zag (.i (.t K0 Va) (.t (.s Va K1) Va)) rfl h0,done++[c],r,pc',qs',_,_,_,_,_,by rw [hU]; simp,by simp at hr; exact zad (.i (.e (.a Va K1) Vb) (.e Va (.s Vb K1))) rfl hr,by rw [zaW,za1,List.length_append,sl],C6,znH hcols.1 hw P eg,by simp; exact zaj (.i (.l Va Vb) (.i (.l Vc (.a Va K1)) (.l Vc (.a Vb K1)))) rfl hq ql⟩
   rcases hw with w | w
   ·refine r_t (by simp [w]) ?_
    walk_at "c"
    refine r_f (by simp [w]) ?_
    exact tl
   ·refine r_f (by simp [w]) ?_
    refine Run.lit (r_f rfl ?_)
    exact tl
  walk_at "r"
  refine zaB e' (za6 (.i (.A (.l Va (.k 300)) (.l Vb (.k 800))) (.i (.e Vb (.a Vc (.a Vd Ve))) (.A (.L (.g (.k 1000)) (.c Vc)) (.L (.c Vc) (.k 1000))))) rfl hn len) (zba (zbQ at0)) ?_
  walk_at "r"
  rcases hw with w | w
  ·refine r_f (by simp [w]) ?_
   refine Run.lit (r_f rfl ?_)
   rw [List.cons_append,List.nil_append]
   refine Run.lit (zbc rfl ?_)
   simp only [List.set_cons_succ,List.set_cons_zero]
   have:=rest (x8:=x8) (x9:=x9)
   rw [w] at this
   exact this
  ·refine r_t (by simp [w]) ?_
   walk_at "c"
   simp only [List.length_map]
   refine r_t (decide_eq_true (zaG (.i (.e Va (.a Vb (.a Vc Vd))) (.i (.e Vc K2) (.T (.a (.c Vb) K1) (.c Va)))) rfl len w)) ?_
   walk_at "c"
   have at1:(zac u)[(zac done).length+1]?=some (zbM c.k):=by
    rw [eu,List.getElem?_append_right (by exact zag (.l Va (.a Va K1)) rfl),Nat.add_sub_cancel_left]; unfold sgc; rw [if_pos w]; rfl
   rw [show (((zac done).length:Nat):Int)+1=(((zac done).length+1:Nat):Int) by exact zag (.E (.a (.c Va) K1) (.c (.a Va K1))) rfl]
   refine zaB e' (za6 (.i (.A (.l Va (.k 300)) (.l Vb (.k 800))) (.i (.e Vb (.a Vc (.a Vd Ve))) (.A (.L (.g (.k 1000)) (.c (.a Vc K1))) (.L (.c (.a Vc K1)) (.k 1000))))) rfl hn len) (zba (zbQ at1)) ?_
   walk_at "r1"
   walk_at "r1"
   walk_at "r1"
   walk_at "r1"
   walk_at "r1"
   refine r_t rfl ?_
   rw [List.cons_append,List.nil_append]
   refine Run.lit (zbc rfl ?_)
   simp only [List.set_cons_succ,List.set_cons_zero]
   have:=rest (x8:=x8) (x9:=x9)
   rw [w] at this
   exact this
 ·rintro ρ H' ⟨done,rest,pc,qs,places,x6,x7,x8,x9,hU,hr,rfl,C,P,hq⟩
  have:rest=[]:=List.eq_nil_of_length_eq_zero hr
  subst this
  rw [List.append_nil] at hU
  subst hU
  walk_at "r"
  refine zbl C.hps ?_
  walk_at "r"
  refine zbe C.hps (by simp; exact zaj (.i (.A (.l Va (.k 300)) (.l Vb (.k 800))) (.i (.l Vc Va) (.l Vc (.k 1000000)))) rfl hn hq) ?_
  walk_at "r"
  refine Run.ret ⟨ps,pl,qs++[pc],places,rfl,C.ext.upd C.fps,by rw [zai]; simp,zak C.hpl C.n3.symm,by unfold zdt; simp [C.len],fun i q b hx hy=>?_,P,C.fps,C.fpl,fun y hy=>?_⟩
  rotate_left
  ·rcases List.mem_append.mp hy with hy | hy
   ·exact C.fqs y hy
   ·rw [List.mem_singleton.mp hy]; exact C.fpc
  unfold zdt at hy
  by_cases q2:i < qs.length
  ·rw [List.getElem?_append_left q2] at hx
   rw [List.getElem?_append_left (by simp; rw [← C.len]; exact q2),List.getElem?_map] at hy
   induction hb:(cut cols u).1[i]? with
   | none=>rw [hb] at hy; injection hy
   | some b'=>rw [hb] at hy; (injection hy with hy; subst hy); exact zak (C.hqs i q b' hx hb) (zcv C.n4 (List.mem_of_getElem? hx))
  ·rw [List.getElem?_append_right (by exact zad (.i (.n (.t Va Vb)) (.l Vb Va)) rfl q2)] at hx
   rw [List.getElem?_append_right (by simp; rw [← C.len]; exact zad (.i (.n (.t Va Vb)) (.l Vb Va)) rfl q2)] at hy
   have:i=qs.length:=by have:=(List.getElem?_eq_some_iff.mp hx).1; simp at this; exact zad (.i (.n (.t Va Vb)) (.i (.e (.s Va Vb) K0) (.e Va Vb))) rfl q2 this
   subst this
   rw [Nat.sub_self] at hx
   rw [List.length_map,C.len,Nat.sub_self] at hy
   cases (show some pc=some q from hx)
   cases (show some (zac (cut cols u).2)=some b from hy)
   exact zak C.hpc C.n1
end
section
variable {W:Wx} {H:Hp}
inductive PRl (cols:Nat) (b:List zaa) (w:Bool) (H:Hp) (x:V) (H':Hp):Prop
 | mk (l:Ln) (e:x=.ref l.a) (f:H l.a=none) (f':H l.c=none) (at_:zaD H' l) (c:l.cells=b++List.replicate (cols - b.length) zar) (w':l.wr=w) (E:Ext H H')
theorem zpM {pa cols:Nat} {b:List zaa} {w:Bool} (hcols:cols≤7) (e:H pa=some (.list (b.map zaa.v))) (hb:b.length≤cols):zae W 6 (.ref 592) [.ref pa,.int cols,.bool w] H (PRl cols b w H):=by
 refine zlY _ _ _ ?_
 unfold zgX
 walk_at "r"
 refine zas ((zfG cols 0 (zag (.i (.l Va (.k 7)) (.l Va (.k 1000))) rfl hcols)).tu rfl) rfl ?_
 rintro _ H1 ⟨l,rfl,fa,fc,hl,hcs,hw,E⟩
 have e1:=E _ _ e
 have lo:=hl.o
 have lc:=hl.cs
 unfold lf at lo
 have n1:pa≠l.c:=zal e fc
 rw [hcs] at lc
 walk_at "r"
 let Hi:Nat→Hp:=fun i=>zab H1 l.c (.list ((b.take i++List.replicate (cols - i) zar).map zaa.v))
 refine Run.fr (l:=(b.map zaa.v).zipIdx.map fun p=>.tup [.int p.2,p.1]) (args:=[.ref pa]) (J:=fun i ρ H'=>(∃ x4 x5,ρ=[some (.ref pa),some (.int cols),some (.bool w),some (.ref l.a),x4,x5])∧H'=Hi i) (Z:=fun _ _=>False) rfl rfl ⟨⟨none,none,rfl⟩,?_⟩ (fun i ρ H' _ hj=>?_) ?_ ?_ (fun _ _ z=>z.elim)
 ·show H1=zab H1 l.c (.list (([]++List.replicate (cols - 0) zar).map zaa.v))
  rw [List.nil_append,Nat.sub_zero]; exact (zbE lc).symm
 ·obtain ⟨_,rfl⟩:=hj
  exact ⟨b.map zaa.v,zak e1 n1,rfl⟩
 ·rintro i x ρ H' hx ⟨⟨x4,x5,rfl⟩,rfl⟩
  rw [List.getElem?_map,List.getElem?_zipIdx,List.getElem?_map] at hx
  induction hb':b[i]? with
  | none=>rw [hb'] at hx; simp at hx
  | some c =>
   rw [hb'] at hx
   simp at hx
   subst hx
   have hi:=(List.getElem?_eq_some_iff.mp hb').1
   have a1:Hi i l.a=some (.inst 251 (lf l.c l.wr)):=zak hl.o (zam hl.o lc rfl)
   have a2:Hi i l.c=some (.list ((b.take i++List.replicate (cols - i) zar).map zaa.v)):=zai
   unfold lf at a1
   walk_at "c"
   refine zdx a2 (zag (.L K0 (.c Va)) rfl) (by simp; exact zaj (.i (.l Va Vb) (.i (.t Vc Va) (.T (.c Vc) (.a (.c (.m Vc Va)) (.c (.s Vb Vc)))))) rfl hb hi) (by simp; exact zaj (.i (.l Va (.k 7)) (.i (.l Vb Va) (.l (.a (.m Vc Vb) (.s Va Vc)) (.k 1000000)))) rfl hcols hb) ?_
   refine Run.nil ⟨⟨_,_,rfl⟩,?_⟩
   show zab (zab H1 l.c _) l.c _=zab H1 l.c _
   rw [zaC]
   congr 2
   rw [show ((i:Nat):Int).toNat=i by exact zag (.e (.t (.c Va)) Va) rfl]
   refine (map_set _ _ _).trans ?_
   congr 1
   have tl:(b.take i).length=i:=by simp; exact zad (.i (.t Va Vb) (.e (.m Va Vb) Va)) rfl hi
   rw [List.set_append,if_neg (by exact zad (.i (.e Va Vb) (.n (.t Vb Va))) rfl tl),tl,Nat.sub_self,List.take_add_one,hb',List.append_assoc]
   congr 1
   obtain ⟨k,hk⟩:∃ k,cols - i=k+1:=⟨cols - i - 1,by exact zaj (.i (.l Va Vb) (.i (.t Vc Va) (.e (.s Vb Vc) (.a (.s (.s Vb Vc) K1) K1)))) rfl hb hi⟩
   rw [hk,List.replicate_succ,show cols - (i+1)=k by exact zaj (.i (.e (.s Va Vb) (.a Vc K1)) (.e (.s Va (.a Vb K1)) Vc)) rfl hk]
   rfl
 ·rintro ρ H' ⟨⟨x4,x5,rfl⟩,rfl⟩
  have len:((b.map zaa.v).zipIdx.map fun p=>V.tup [.int p.2,p.1]).length=b.length:=by simp
  rw [len]
  have a1:Hi b.length l.a=some (.inst 251 (lf l.c l.wr)):=zak hl.o (zam hl.o lc rfl)
  have a2:Hi b.length l.c=some (.list ((b.take b.length++List.replicate (cols - b.length) zar).map zaa.v)):=zai
  rw [List.take_length] at a2
  have E2:Ext H (Hi b.length):=E.upd fc
  generalize Hi b.length=H2 at *
  unfold lf at a1
  walk_at "r"
  refine zaq a1 rfl rfl ?_
  walk_at "r"
  exact Run.ret ⟨⟨l.a,l.c,b++List.replicate (cols - b.length) zar,w⟩,rfl,fa,fc,⟨zai,zak a2 (zam a2 a1 rfl)⟩,rfl,rfl,E2.upd fa⟩
theorem zpP {a b c f i:Nat} {w:Bool} {bl:List Nat} (e:H a=some (.inst 532 (llF f b c w))) (eb:H b=some (.list (zaH bl))) (hi:i < bl.length) (hn:bl.length≤900):zae W 1 (.ref 522) [.ref a,.int i] H fun x H'=>H'=H∧x.isNone=true∨H'=H∧∃ n,x=.int n:=by
 refine zhW _ _ ?_
 unfold zeE
 unfold llF at e
 have len:(zaH bl).length=bl.length:=by simp [zaH]
 walk_at "r"
 by_cases q:i+1 < bl.length
 ·refine r_t (decide_eq_true (zaj (.i (.e Va Vb) (.i (.t (.a Vc K1) Vb) (.T (.a (.c Vc) K1) (.c Va)))) rfl len q)) ?_
  walk_at "c"
  rw [show (i:Int)+1=((i+1:Nat):Int) from rfl]
  refine zaB eb (zad (.i (.t Va Vb) (.i (.l Vb (.k 900)) (.A (.L (.g (.k 1000)) (.c (.a Va K1))) (.L (.c (.a Va K1)) (.k 1000))))) rfl hi hn) (x:=.int (bl[i+1]'q:Nat)) (zba (by simp [zaH,q])) ?_
  walk_at "r"
  refine zaB eb (zad (.i (.t Va Vb) (.i (.l Vb (.k 900)) (.A (.L (.g (.k 1000)) (.c Va)) (.L (.c Va) (.k 1000))))) rfl hi hn) (x:=.int (bl[i]'hi:Nat)) (zba (by simp [zaH,hi])) ?_
  walk_at "r"
  exact Run.ret (.inr ⟨rfl,_,rfl⟩)
 ·refine r_f (decide_eq_false (zaj (.i (.e Va Vb) (.i (.n (.t (.a Vc K1) Vb)) (.n (.T (.a (.c Vc) K1) (.c Va))))) rfl len q)) ?_
  walk_at "c"
  exact Run.ret (.inl ⟨rfl,rfl⟩)
theorem zpO {a b c f:Nat} {w:Bool} {bl:List Nat} {n:Nat} (e:H a=some (.inst 532 (llF f b c w))) (eb:H b=some (.list (zaH (bl++[n])))) (hn:bl.length≤900):zae W 1 (.ref 522) [.ref a,.int (bl.length:Nat)] H (is .none H):=by
 refine zhW _ _ ?_
 unfold zeE
 unfold llF at e
 have ln:(zaH (bl++[n])).length=bl.length+1:=by simp [zaH]
 walk_at "r"
 refine r_f (decide_eq_false (zad (.i (.e Va (.a Vb K1)) (.n (.T (.a (.c Vb) K1) (.c Va)))) rfl ln)) ?_
 walk_at "c"
 exact Run.ret ⟨rfl,rfl⟩
theorem zpD {a b c f:Nat} {w:Bool} {bl:List Nat} {n col:Nat} (e:H a=some (.inst 532 (llF f b c w))) (eb:H b=some (.list (zaH (bl++[n])))) (hn:bl.length≤900):zae W 2 (.ref 529) [.ref a,.int (bl.length:Nat),.int col] H (is (.tup [.int ((n+col:Nat):Int),.bool false]) H):=by
 refine zlR _ _ _ ?_
 unfold zgQ
 have e':=e
 unfold llF at e'
 walk_at "r"
 refine zas ((zpO e eb hn).tu rfl) rfl ?_
 refine zat ?_
 walk_at "r"
 refine zaB eb (zag (.i (.l Va (.k 900)) (.A (.L (.g (.k 1000)) (.c Va)) (.L (.c Va) (.k 1000)))) rfl hn) (x:=.int (n:Nat)) (zba (by simp [zaH])) ?_
 walk_at "r"
 refine Run.ret ⟨?_,rfl⟩
 rw [show ((n+col:Nat):Int)=(n:Int)+(col:Int) by exact zad (.E (.c (.a Va Vb)) (.a (.c Va) (.c Vb))) rfl]
theorem zpq {a b c f:Nat} {w:Bool} {cs:List zaa} {m:Nat} (e:H a=some (.inst 532 (llF f b c w))) (ec:H c=some (.list (cs.map zaa.v))) (hm:m≤cs.length∨m=cs.length+1) (hn:cs.length≤9000) :
  zae W 3 (.ref 515) [.ref a,.int m] H (is .none (zab H c (.list ((if m≤cs.length then cs else cs++[zar]).map zaa.v)))):=by
 refine zlQ _ _ ?_
 unfold zgP
 let cs':Nat→List zaa:=fun n=>if n=0 then (if m≤cs.length then cs else cs++[zar]) else cs
 let Hn:Nat→Hp:=fun n=>zab H c (.list ((cs' n).map zaa.v))
 have hk:∀ n,Hn n a=some (.inst 532 (llF f b c w)):=fun n=>zak e (zam e ec rfl)
 have hc:∀ n,Hn n c=some (.list ((cs' n).map zaa.v)):=fun n=>zai
 refine Run.whl (J:=fun n ρ H'=>ρ=[some (.ref a),some (.int m)]∧H'=Hn n∧(n=0∨m=cs.length+1)) (B:=fun n ρ H'=>ρ=[some (.ref a),some (.int m)]∧H'=Hn n∧0 < n∧m=cs.length+1) (N:=fun ρ H'=>H'=Hn 0) (Z:=fun _ _=>False) (if m≤cs.length then 0 else 1) ⟨rfl,?_,?_⟩ ?_ ?_ ?_ (fun _ _ z=>z.elim)
 ·show H=zab H c _
  have:cs' (if m≤cs.length then 0 else 1)=cs:=by
   by_cases q:m≤cs.length
   ·simp [cs',q]
   ·simp [cs',q]
  rw [this]; exact (zbE ec).symm
 ·split
  ·exact .inl rfl
  ·exact .inr (lin (.i (.O (.l Va Vb) (.e Va (.a Vb K1))) (.i (.n (.l Va Vb)) (.e Va (.a Vb K1)))) [m,cs.length] rfl hm (by assumption))
 ·rintro n ρ H' ⟨rfl,rfl,hn'⟩
  have h1:=hk n
  have h2:=hc n
  unfold llF at h1
  have len:(cs' n).length≤9001:=by
   simp only [cs']
   split
   ·split
    ·exact zag (.i (.l Va (.k 9000)) (.l Va (.k 9001))) rfl hn
    ·rw [List.length_append]; show cs.length+1≤9001; exact zag (.i (.l Va (.k 9000)) (.l (.a Va K1) (.k 9001))) rfl hn
   ·exact zag (.i (.l Va (.k 9000)) (.l Va (.k 9001))) rfl hn
  walk_at "r"
  simp only [List.length_map]
  by_cases q:n=0
  ·subst q
   have:m≤(cs' 0).length:=by
    simp only [cs',if_true]; split
    ·assumption
    ·simp; exact zad (.i (.O (.l Va Vb) (.e Va (.a Vb K1))) (.l Va (.a Vb K1))) rfl hm
   rw [decide_eq_false (by exact zad (.i (.l Va Vb) (.n (.T (.c Vb) (.c Va)))) rfl this)]
   exact Run.nil ⟨rfl,rfl⟩
  ·have e1:cs' n=cs:=by simp only [cs',if_neg q]
   rw [e1,decide_eq_true (by exact zaj (.i (.O (.e Va K0) (.e Vb (.a Vc K1))) (.i (.n (.e Va K0)) (.T (.c Vc) (.c Vb)))) rfl hn' q)]
   exact Run.nil ⟨rfl,rfl,rfl,by exact zag (.i (.n (.e Va K0)) (.t K0 Va)) rfl q,hn'.resolve_left q⟩
 ·rintro n ρ H' ⟨rfl,rfl,h0,hm'⟩
  have h1:=hk n
  have h2:=hc n
  have e1:cs' n=cs:=by simp only [cs',if_neg (show n≠0 by exact zag (.i (.t K0 Va) (.n (.e Va K0))) rfl h0)]
  rw [e1] at h2
  unfold llF at h1
  walk_at "r"
  refine zbl h2 ?_
  walk_at "r"
  refine zav ((zfC 0).tu rfl) rfl ?_
  refine zat ?_
  refine zbe h2 (by simp; exact zag (.i (.l Va (.k 9000)) (.l Va (.k 1000000))) rfl hn) ?_
  walk_at "r"
  refine Run.nil ⟨0,by exact zag (.i (.t K0 Va) (.t K0 Va)) rfl h0,rfl,?_,.inl rfl⟩
  show zab (zab H c _) c _=zab H c _
  rw [zaC]
  congr 2
  simp only [cs',if_true,if_neg (show ¬ m≤cs.length by exact zad (.i (.e Va (.a Vb K1)) (.n (.l Va Vb))) rfl hm'),List.map_append]
  rfl
 ·rintro ρ H' rfl
  refine Run.nil ⟨rfl,?_⟩
  show zab H c _=_
  simp only [cs',if_true]
theorem zpN {ps pl q:Nat} {qs:List Nat} {places:List (Nat × Nat)} {off:Nat} {b:List V} (e:H ps=some (.list (qs.map V.ref))) (e2:H pl=some (.list (plV places))) (hq:qs[qs.length - 1]?=some q) (e3:H q=some (.list b)) (hn:qs.length≤900∧off≤900∧b.length≤900∧places.length≤9000) :
  zae W 1 (.ref 585) [.ref ps,.ref pl,.int off] H (is (match places[off]? with | some p=>.tup [.int (p.1:Nat),.int (p.2:Nat)] | none=>.tup [.int ((qs.length - 1:Nat):Int),.int (b.length:Nat)]) H):=by
 refine zlX _ _ _ ?_
 unfold zgW
 have len:(plV places).length=places.length:=by simp [plV]
 have hlt:=(List.getElem?_eq_some_iff.mp hq).1
 walk_at "r"
 induction h:places[off]? with
 | some p =>
  have:=(List.getElem?_eq_some_iff.mp h).1
  refine r_t (decide_eq_true (zaj (.i (.e Va Vb) (.i (.t Vc Vb) (.T (.c Vc) (.c Va)))) rfl len this)) ?_
  walk_at "c"
  refine zaB e2 (zaG (.i (.A (.l Va (.k 900)) (.A (.l Vb (.k 900)) (.A (.l Vc (.k 900)) (.l Vd (.k 9000))))) (.A (.L (.g (.k 1000)) (.c Vb)) (.L (.c Vb) (.k 1000)))) rfl hn) (x:=.tup [.int (p.1:Nat),.int (p.2:Nat)]) (zba (by unfold plV; rw [List.getElem?_map,h]; rfl)) ?_
  exact Run.ret ⟨rfl,rfl⟩
 | none =>
  have:=List.getElem?_eq_none_iff.mp h
  refine r_f (decide_eq_false (zaj (.i (.e Va Vb) (.i (.l Vb Vc) (.n (.T (.c Vc) (.c Va))))) rfl len this)) ?_
  walk_at "c"
  refine zaB e (by decide) (x:=.ref q) (by
   unfold at?
   rw [if_pos (by exact lin (.T (.g K1) K0) [] rfl),if_pos (by simp; exact zag (.i (.t (.s Va K1) Va) (.L K1 (.c Va))) rfl hlt),show ((-1:Int)+((qs.map V.ref).length:Nat)).toNat=qs.length - 1 by simp; exact zag (.e (.t (.a (.g K1) (.c Va))) (.s Va K1)) rfl,List.getElem?_map,hq]; rfl) ?_
  walk_at "r"
  refine Run.ret ⟨?_,rfl⟩
  rw [List.length_map,show ((qs.length - 1:Nat):Int)=(qs.length:Int) - 1 by exact zag (.i (.t (.s Va K1) Va) (.E (.c (.s Va K1)) (.s (.c Va) K1))) rfl hlt]
end
noncomputable def ctF (cols li first row col:Nat) (wait:Bool) (sp:Nat):List (Nat × V):=[(4,.int cols),(5,.ref li),(8,.int first),(11,.int row),(12,.int col),(13,.bool wait),(14,.ref sp)]
structure zck (cols n:Nat) (H H':Hp) (li:Nat) (P:List (List zaa)) (new:List Ln):Prop where
 at_:∀ l ∈ new,zaD H' l
 fr:∀ l ∈ new,H l.a=none∧H l.c=none
 nda:(new.map (·.a)).Nodup
 ndc:(new.map (·.c)).Nodup
 cs:∀ (j:Nat) (l:Ln) (b:List zaa),new[j]?=some l→P[j]?=some b→l.cells=b++List.replicate (cols - b.length) zar∧l.wr=decide (j+1 < n)
section
variable {W:Wx} {H:Hp}
inductive JSp (ct a ps pl sp begun:Nat) (x2 x3 x4 x6 x7 x8 x9 x12 x15 x16 x17 x18:Option V) (spl:List V) (H:Hp) (i:Nat) (ρ:Ro) (H':Hp):Prop
 | mk (x13 x14:Option V) (spl':List V) (hl:spl'.length=spl.length+i) (hρ:ρ=[some (.ref ct),some (.ref a),x2,x3,x4,some (.int begun),x6,x7,x8,x9,some (.ref ps),some (.ref pl),x12,x13,x14,x15,x16,x17,x18]) (hH:H'=zab H sp (.list spl'))
theorem znT {ct li sp a b c f cols fi ro co:Nat} {wa:Bool} {bl:List Nat} {spl:List V} {x2 x3 x4 x6 x7 x8 x9 x12 x13 x14 x15 x16 x17 x18:Option V} {begun ps pl:Nat} {k:List I} {Q:Out→Prop} (o:H ct=some (.inst 644 (ctF cols li fi ro co wa sp))) (os:H sp=some (.list spl)) (ol:H a=some (.inst 532 (llF f b c true))) (ob:H b=some (.list (zaH bl))) (nb:b≠sp) (hb:bl.length≤900∧spl.length+bl.length≤5000)
  (fin:∀ spl' x13 x14,spl'.length≤spl.length+bl.length→Run W 6 k [] [some (.ref ct),some (.ref a),x2,x3,x4,some (.int begun),x6,x7,x8,x9,some (.ref ps),some (.ref pl),x12,x13,x14,x15,x16,x17,x18] (zab H sp (.list spl')) Q) :
  Run W 6 (Y1::.attr 9::.fr .enum 1 [.unp 2,.sto 13,.sto 14] [Y0,.attr 14,.mth 41,Y5,Y14,Y1,.mth 10,Y13,.call 2,Y10,Y11,.tup 5,.call 2,.pop]::k) []
   [some (.ref ct),some (.ref a),x2,x3,x4,some (.int begun),x6,x7,x8,x9,some (.ref ps),some (.ref pl),x12,x13,x14,x15,x16,x17,x18] H Q:=by
 have ol':=ol
 unfold llF at ol'
 walk_at "r1"
 walk_at "r1"
 have len:((zaH bl).zipIdx.map fun p=>V.tup [.int p.2,p.1]).length=bl.length:=by simp [zaH]
 refine Run.fr (l:=(zaH bl).zipIdx.map fun p=>.tup [.int p.2,p.1]) (args:=[.ref b]) (J:=JSp ct a ps pl sp begun x2 x3 x4 x6 x7 x8 x9 x12 x15 x16 x17 x18 spl H) (Z:=fun _ _=>False) rfl rfl ⟨x13,x14,spl,rfl,rfl,(zbE os).symm⟩ (fun i ρ H' _ hj=>?_) ?_ ?_ (fun _ _ z=>z.elim)
 ·obtain ⟨_,_,spl',_,_,rfl⟩:=hj
  exact ⟨zaH bl,zak ob nb,rfl⟩
 ·rintro i x ρ H' hx ⟨y13,y14,spl',hl,rfl,rfl⟩
  have hi:i < bl.length:=by have:=(List.getElem?_eq_some_iff.mp hx).1; exact zaj (.i (.e Va Vb) (.i (.t Vc Va) (.t Vc Vb))) rfl len this
  rw [List.getElem?_map,List.getElem?_zipIdx] at hx
  have:(zaH bl)[i]?=some (.int (bl[i]'hi:Nat)):=by simp [zaH,hi]
  rw [this] at hx
  simp at hx
  subst hx
  have o1:=zak o (zam o os rfl) (m':=.list spl')
  have l1:=zak ol (zam ol os rfl) (m':=.list spl')
  have b1:=zak ob nb (m':=.list spl')
  have s1:zab H sp (.list spl') sp=some (.list spl'):=zai
  have o1':=o1
  have l1':=l1
  unfold ctF at o1'
  unfold llF at l1'
  walk_at "c"
  refine zbl s1 ?_
  walk_at "r"
  refine zas ((zpP l1 b1 hi hb.1).tu rfl) rfl fun x H2 hx2=>?_
  have hH2:H2=zab H sp (.list spl'):=by rcases hx2 with h | h <;> exact h.1
  subst hH2
  walk_at "r"
  refine zbe s1 (zaG (.i (.A (.l Va (.k 900)) (.l (.a Vb Va) (.k 5000))) (.i (.e Vc (.a Vb Vd)) (.i (.t Vd Va) (.l Vc (.k 1000000))))) rfl hb hl hi) ?_
  walk_at "r"
  exact Run.nil ⟨_,_,_,by rw [List.length_append,hl]; rfl,rfl,zaC⟩
 ·rintro ρ H' ⟨y13,y14,spl',hl,rfl,rfl⟩
  rw [len] at hl
  exact fin spl' y13 y14 (zaj (.i (.e Va (.a Vb Vc)) (.l Va (.a Vb Vc))) rfl hl)
inductive JPl (ct a ps li cols begun:Nat) (x2 x3 x4 x6 x7 x8 x9 x11 x12 x13 x14 x18:Option V) (L:List Ln) (P:List (List zaa)) (H:Hp) (i:Nat) (ρ:Ro) (H':Hp):Prop
 | mk (new:List Ln) (x15 x16 x17:Option V) (hl:new.length=i) (hρ:ρ=[some (.ref ct),some (.ref a),x2,x3,x4,some (.int begun),x6,x7,x8,x9,some (.ref ps),x11,x12,x13,x14,x15,x16,x17,x18]) (hli:H' li=some (.list (zah (L++new)))) (N:zck cols P.length H H' li P new) (kp:∀ y m,H y=some m→y≠li→H' y=some m)
theorem znP {ct li sp a b c f cols fi ro co:Nat} {wa:Bool} {L:List Ln} {qs:List Nat} {P:List (List zaa)} {x2 x3 x4 x6 x7 x8 x9 x11 x12 x13 x14 x15 x16 x17 x18:Option V} {begun ps:Nat} {k:List I} {Q:Out→Prop} (hcols:2≤cols∧cols≤7) (o:H ct=some (.inst 644 (ctF cols li fi ro co wa sp))) (hli:H li=some (.list (zah L))) (ol:H a=some (.inst 532 (llF f b c true)))
  (hps:H ps=some (.list (qs.map V.ref))) (lq:qs.length=P.length) (hqs:∀ (i:Nat) (q:Nat) (b:List zaa),qs[i]?=some q→P[i]?=some b→H q=some (.list (b.map zaa.v))) (n1:ps≠li) (n2:li ∉ qs) (hP:∀ b ∈ P,b.length≤cols) (hb:L.length+P.length≤900)
  (fin:∀ H' new x15 x16 x17,H' li=some (.list (zah (L++new)))→new.length=P.length→zck cols P.length H H' li P new→(∀ y m,H y=some m→y≠li→H' y=some m)→Run W 6 k [] [some (.ref ct),some (.ref a),x2,x3,x4,some (.int begun),x6,x7,x8,x9,some (.ref ps),x11,x12,x13,x14,x15,x16,x17,x18] H' Q) :
  Run W 6 (Y10::.fr .enum 1 [.unp 2,.sto 15,.sto 16] [Y15,(iI 1),.bin .Add,.lit (.raw (.builtin "len")),Y10,.call 1,.cmp .Lt,.chk,.ite [iT] [Y1,.attr 10,.chk,.notb],.sto 17,Y0,.attr 5,.mth 41,.lit (.raw (.ref 592)),Y16,Y0,.attr 4,Y17,.call 3,.call 2,.pop]::k) []
   [some (.ref ct),some (.ref a),x2,x3,x4,some (.int begun),x6,x7,x8,x9,some (.ref ps),x11,x12,x13,x14,x15,x16,x17,x18] H Q:=by
 refine Run.loc rfl ?_
 have len:((qs.map V.ref).zipIdx.map fun p=>V.tup [.int p.2,p.1]).length=P.length:=by simp [lq]
 let Jn:Nat→Ro→Hp→Prop:=JPl ct a ps li cols begun x2 x3 x4 x6 x7 x8 x9 x11 x12 x13 x14 x18 L P H
 refine Run.fr (l:=(qs.map V.ref).zipIdx.map fun p=>.tup [.int p.2,p.1]) (args:=[.ref ps]) (J:=Jn) (Z:=fun _ _=>False) rfl rfl ⟨[],x15,x16,x17,rfl,rfl,by rw [List.append_nil]; exact hli,⟨by simp,by simp,by simp,by simp,by simp⟩,fun _ _ h _=>h⟩ (fun i ρ H' _ hj=>?_) ?_ ?_ (fun _ _ z=>z.elim)
 ·obtain ⟨_,_,_,_,_,_,_,_,kp⟩:=hj
  exact ⟨qs.map V.ref,kp _ _ hps n1,rfl⟩
 ·rintro i x ρ H1 hx ⟨new,y15,y16,y17,hl,rfl,li1,N,kp⟩
  have hi:i < P.length:=by have:=(List.getElem?_eq_some_iff.mp hx).1; exact zaj (.i (.e Va Vb) (.i (.t Vc Va) (.t Vc Vb))) rfl len this
  have hi':i < qs.length:=by exact zaj (.i (.e Va Vb) (.i (.t Vc Vb) (.t Vc Va))) rfl lq hi
  rw [List.getElem?_map,List.getElem?_zipIdx] at hx
  have:(qs.map V.ref)[i]?=some (.ref (qs[i]'hi')):=by simp [hi']
  rw [this] at hx
  simp at hx
  subst hx
  obtain ⟨q,hq⟩:∃ q,qs[i]?=some q:=⟨_,List.getElem?_eq_getElem hi'⟩
  obtain ⟨p,hp⟩:∃ p,P[i]?=some p:=⟨_,List.getElem?_eq_getElem hi⟩
  have eq:qs[i]'hi'=q:=by rw [List.getElem?_eq_getElem hi'] at hq; exact Option.some.inj hq
  rw [eq]
  have plen:=hP p (List.mem_of_getElem? hp)
  have qm:q≠li:=zcv n2 (List.mem_of_getElem? hq)
  have o1:=kp _ _ o (zam o hli rfl)
  have l1:=kp _ _ ol (zam ol hli rfl)
  have p1:=kp _ _ hps n1
  have q1:=kp _ _ (hqs i q p hq hp) qm
  have o1':=o1
  have l1':=l1
  unfold ctF at o1'
  unfold llF at l1'
  have rest:∀ {w:Bool} {z17:Option V},w=decide (i+1 < P.length)→Run W 6 [I.sto 17,Y0,.attr 5,.mth 41,.lit (.raw (.ref 592)),Y16,Y0,.attr 4,Y17,.call 3,.call 2,.pop] [.bool w]
    [some (.ref ct),some (.ref a),x2,x3,x4,some (.int begun),x6,x7,x8,x9,some (.ref ps),x11,x12,x13,x14,some (.int i),some (.ref q),z17,x18] H1 (fun o=>match o with | .nxt [] ρ' H'=>Jn (i+1) ρ' H' | .ret v H'=>False | _=>False):=by
   intro w z17 hw
   walk_at "r"
   refine zbl li1 ?_
   walk_at "r"
   refine za0 ((zpM hcols.2 q1 plen).tu rfl) rfl ?_
   rintro _ H2 ⟨l,rfl,fa,fc,hl2,hcs,hwr,E⟩
   have li2:=E _ _ li1
   refine zbe li2 (by simp [zah]; exact zaG (.i (.l (.a Va Vb) (.k 900)) (.i (.e Vc Vd) (.i (.t Vd Vb) (.l (.a Va Vc) (.k 1000000))))) rfl hb hl hi) ?_
   walk_at "r"
   have back1:∀ y,H1 y=none→H y=none:=fun y z=>by
    induction h:H y with
    | none=>rfl
    | some m =>
     by_cases q:y=li
     ·rw [q,li1] at z; injection z
     ·rw [kp _ _ h q] at z; injection z
   refine Run.nil ⟨new++[l],_,_,_,by rw [List.length_append,hl]; rfl,rfl,by rw [zai]; simp [zah],⟨fun y hy=>?_,fun y hy=>?_,?_,?_,fun j y b' hy hb'=>?_⟩,fun y m hm ny=>zak (E _ _ (kp _ _ hm ny)) ny⟩
   ·rcases List.mem_append.mp hy with hy | hy
    ·have z:=(N.at_ y hy).ext E
     have:y.c≠li:=fun q=>by
      have:=(N.at_ y hy).cs
      have f:=(N.fr y hy).2
      rw [q,hli] at f; injection f
     exact ⟨zak z.o (zam z.o li2 rfl),zak z.cs this⟩
    ·rw [List.mem_singleton.mp hy]
     exact ⟨zak hl2.o (zam hl2.o li2 rfl),zak hl2.cs (zal li1 fc).symm⟩
   ·rcases List.mem_append.mp hy with hy | hy
    ·exact N.fr y hy
    ·rw [List.mem_singleton.mp hy]; exact ⟨back1 _ fa,back1 _ fc⟩
   ·rw [List.map_append,List.nodup_append]
    refine ⟨N.nda,by simp,fun y hy z hz=>?_⟩
    obtain ⟨w',hw',rfl⟩:=List.mem_map.mp hy
    simp only [List.map_cons,List.map_nil,List.mem_singleton] at hz
    rw [hz]; exact zal (N.at_ w' hw').o fa
   ·rw [List.map_append,List.nodup_append]
    refine ⟨N.ndc,by simp,fun y hy z hz=>?_⟩
    obtain ⟨w',hw',rfl⟩:=List.mem_map.mp hy
    simp only [List.map_cons,List.map_nil,List.mem_singleton] at hz
    rw [hz]; exact zal (N.at_ w' hw').cs fc
   ·by_cases q2:j < new.length
    ·rw [List.getElem?_append_left q2] at hy
     exact N.cs j y b' hy hb'
    ·rw [List.getElem?_append_right (by exact zad (.i (.n (.t Va Vb)) (.l Vb Va)) rfl q2)] at hy
     have:j=new.length:=by have:=(List.getElem?_eq_some_iff.mp hy).1; simp at this; exact zad (.i (.n (.t Va Vb)) (.i (.e (.s Va Vb) K0) (.e Va Vb))) rfl q2 this
     subst this
     rw [Nat.sub_self] at hy
     have hy':some l=some y:=hy
     rw [hl,hp] at hb'
     rw [← Option.some.inj hy',← Option.some.inj hb',hl]
     exact ⟨hcs,hwr.trans hw⟩
  walk_at "c"
  by_cases q2:i+1 < P.length
  ·refine r_t (decide_eq_true (by simp [lq]; exact zad (.i (.t (.a Va K1) Vb) (.T (.a (.c Va) K1) (.c Vb))) rfl q2)) ?_
   refine Run.lit ?_
   exact rest (decide_eq_true q2).symm
  ·refine r_f (decide_eq_false (by simp [lq]; exact zad (.i (.n (.t (.a Va K1) Vb)) (.L (.c Vb) (.a (.c Va) K1))) rfl q2)) ?_
   rw [List.cons_append]
   walk_at "r1"
   rw [List.cons_append]
   walk_at "r1"
   rw [List.cons_append]
   walk_at "r1"
   rw [List.cons_append]
   walk_at "r1"
   exact rest (w:=!true) (decide_eq_false q2).symm
 ·rintro ρ H1 ⟨new,y15,y16,y17,hl,rfl,li1,N,kp⟩
  rw [len] at hl
  exact fin H1 new y15 y16 y17 li1 hl N kp
end
theorem zck.keeps {cols n:Nat} {H H1 H2:Hp} {li:Nat} {P:List (List zaa)} {new:List Ln} (h:zck cols n H H1 li P new) (k:∀ l ∈ new,zaD H1 l→zaD H2 l):zck cols n H H2 li P new:=
 ⟨fun l hl=>k l hl (h.at_ l hl),h.fr,h.nda,h.ndc,h.cs⟩
noncomputable def zcp (cols:Nat) (bh cw:Bool) (c:Nat) (w:Bool):Nat × Bool:=if bh then (c,true) else if cw then (if c+1 < cols then (c+1,w) else (c,true)) else (c,w)
structure PutR (cols:Nat) (H H':Hp) (ct li sp:Nat) (L:List Ln) (P:List (List zaa)) (new:List Ln) (fi ro co:Nat) (wa:Bool) (spn:Nat):Prop where
 o:H' ct=some (.inst 644 (ctF cols li fi ro co wa sp))
 hli:H' li=some (.list (zah (L++new)))
 hsp:∃ spl,H' sp=some (.list spl)∧spl.length≤spn
 len:new.length=P.length
 N:zck cols P.length H H' li P new
 kp:∀ y m,H y=some m→y≠ct→y≠li→y≠sp→H' y=some m
section
variable {W:Wx} {H:Hp}
theorem zpj {ct li sp cols fi ro co:Nat} {wa:Bool} (o:H ct=some (.inst 644 (ctF cols li fi ro co wa sp))):zae W 1 (.ref 620) [.ref ct] H (is .none (zab H ct (.inst 644 (ctF cols li fi ro (zcp cols false true co wa).1 (zcp cols false true co wa).2 sp)))):=by
 refine zl2 _ ?_
 unfold zg1
 have o':=o
 unfold ctF at o'
 walk_at "r"
 unfold zcp
 by_cases q:co+1 < cols
 ·refine r_t (decide_eq_true (zad (.i (.t (.a Va K1) Vb) (.T (.a (.c Va) K1) (.c Vb))) rfl q)) ?_
  walk_at "c"
  rw [show (co:Int)+1=((co+1:Nat):Int) from rfl]
  refine zaq o' rfl rfl ?_
  refine Run.nil ⟨rfl,?_⟩
  simp only [if_pos q,Bool.false_eq_true,if_false,if_true]; rfl
 ·refine r_f (decide_eq_false (zad (.i (.n (.t (.a Va K1) Vb)) (.n (.T (.a (.c Va) K1) (.c Vb)))) rfl q)) ?_
  walk_at "c"
  refine zaq o' rfl rfl ?_
  refine Run.nil ⟨rfl,?_⟩
  simp only [if_neg q,Bool.false_eq_true,if_false,if_true]; rfl
noncomputable def plc (places:List (Nat × Nat)) (n m off:Nat):Nat × Nat:=match places[off]? with | some p=>p | none=>(n - 1,m)
structure zbH (H:Hp) (ps pl:Nat) (qs:List Nat) (P:List (List zaa)) (places:List (Nat × Nat)):Prop where
 hps:H ps=some (.list (qs.map V.ref))
 hpl:H pl=some (.list (plV places))
 len:qs.length=P.length
 hqs:∀ (i:Nat) (q:Nat) (b:List zaa),qs[i]?=some q→P[i]?=some b→H q=some (.list (b.map zaa.v))
theorem zbH.keeps {H H':Hp} {ps pl:Nat} {qs:List Nat} {P:List (List zaa)} {places:List (Nat × Nat)} (h:zbH H ps pl qs P places) (k:∀ y m,H y=some m→(y=ps∨y=pl∨y ∈ qs)→H' y=some m):zbH H' ps pl qs P places:=
 ⟨k _ _ h.hps (.inl rfl),k _ _ h.hpl (.inr (.inl rfl)),h.len,fun i q b x y=>k _ _ (h.hqs i q b x y) (.inr (.inr (List.mem_of_getElem? x)))⟩
theorem zjm {ps pl off:Nat} {qs:List Nat} {P:List (List zaa)} {places:List (Nat × Nat)} {b:List zaa} (A:zbH H ps pl qs P places) (hb:P[P.length - 1]?=some b) (hn:P.length≤900∧off≤900∧b.length≤900∧places.length≤9000) :
  zae W 1 (.ref 585) [.ref ps,.ref pl,.int off] H (is (.tup [.int ((plc places P.length b.length off).1:Nat),.int ((plc places P.length b.length off).2:Nat)]) H):=by
 have lt:=(List.getElem?_eq_some_iff.mp hb).1
 obtain ⟨q,hq⟩:∃ q,qs[qs.length - 1]?=some q:=⟨_,List.getElem?_eq_getElem (by rw [A.len]; exact zag (.i (.t (.s Va K1) Va) (.t (.s Va K1) Va)) rfl lt)⟩
 have:=zpN (W:=W) (off:=off) A.hps A.hpl hq (A.hqs _ _ _ hq (by rw [A.len]; exact hb)) ⟨by rw [A.len]; exact zaG (.i (.A (.l Va (.k 900)) (.A (.l Vb (.k 900)) (.A (.l Vc (.k 900)) (.l Vd (.k 9000))))) (.l Va (.k 900))) rfl hn,hn.2.1,by simp; exact zaG (.i (.A (.l Va (.k 900)) (.A (.l Vb (.k 900)) (.A (.l Vc (.k 900)) (.l Vd (.k 9000))))) (.l Vc (.k 900))) rfl hn,hn.2.2.2⟩
 rw [A.len,List.length_map] at this
 unfold plc
 induction h:places[off]? with
 | some p=>rw [h] at this; exact this
 | none=>rw [h] at this; exact this
theorem znU {ct li sp a b c f cols fi ro co:Nat} {wa:Bool} {bl:List Nat} {spl:List V} {L:List Ln} {qs:List Nat} {P:List (List zaa)} {places:List (Nat × Nat)} {x2 x13 x14 x15 x16 x17 x18:Option V} {ps pl fst lst off crow ccol:Nat} {hv bh cw:Bool} {lb:List zaa} (hcols:2≤cols∧cols≤7)
  (o:H ct=some (.inst 644 (ctF cols li fi ro co wa sp))) (hli:H li=some (.list (zah L))) (os:H sp=some (.list spl)) (ol:H a=some (.inst 532 (llF f b c true))) (ob:H b=some (.list (zaH bl))) (A:zbH H ps pl qs P places)
  (n1:ps≠li) (n2:li ∉ qs) (n3:ps≠sp) (n4:pl≠sp) (n5:sp ∉ qs) (n6:b≠sp) (n7:b≠li) (n8:li≠sp) (n9:pl≠li) (hP:∀ b ∈ P,b.length≤cols) (hlb:P[P.length - 1]?=some lb) (hb:bl.length≤500∧spl.length+bl.length≤5000∧L.length+P.length≤900∧places.length≤9000∧off≤900) (hbl:∀ n ∈ bl,n≤900)
  (hlst:f≤fst→fst≤lst→fst - f < bl.length) {Q:Out→Prop}
  (done:∀ H' new fi' ro' co' wa' ρ',PutR cols H H' ct li sp L P new fi' ro' co' wa' (spl.length+bl.length) →
    (f≤fst∧fst≤lst→∃ n,bl[fst - f]?=some n∧fi'=L.length+(plc places P.length lb.length n).1)→(¬ (f≤fst∧fst≤lst)→fi'=fi) →
    (hv=true→ro'=L.length+(plc places P.length lb.length off).1∧(co',wa')=zcp cols bh cw (min (plc places P.length lb.length off).2 (cols - 1)) wa)→(hv=false→ro'=ro∧co'=co∧wa'=wa)→Q (.nxt [] ρ' H')) :
  Run W 6 (Y1::.attr 9::.fr .enum 1 [.unp 2,.sto 13,.sto 14] [Y0,.attr 14,.mth 41,Y5,Y14,Y1,.mth 10,Y13,.call 2,Y10,Y11,.tup 5,.call 2,.pop]::Y10::.fr .enum 1 [.unp 2,.sto 15,.sto 16] [Y15,(iI 1),.bin .Add,.lit (.raw (.builtin "len")),Y10,.call 1,.cmp .Lt,.chk,.ite [iT] [Y1,.attr 10,.chk,.notb],.sto 17,Y0,.attr 5,.mth 41,.lit (.raw (.ref 592)),Y16,Y0,.attr 4,Y17,.call 3,.call 2,.pop] ::
   [Y1,.attr 8,Y3,.cmpk .LtE,.ite [Y6,.cmp .LtE] [.pop,iF],.chk,.ite [.lit (.raw (.ref 585)),Y10,Y11,Y1,.attr 9,Y3,Y1,.attr 8,.bin .Sub,.idx,.call 3,.sto 18,Y5,Y18,(iI 0),.idx,.bin .Add,Y0,.sattr 8] [],Y7,.chk,.ite [.lit (.raw (.ref 585)),Y10,Y11,Y8,.call 3,.sto 18,Y5,Y18,(iI 0),.idx,.bin .Add,.lit (.raw (.builtin "min")),Y18,(iI 1),.idx,Y0,.attr 4,(iI 1),.bin .Sub,.call 2,.tup 2,.unp 2,Y0,.sattr 11,Y0,.sattr 12,Y12,.chk,.ite [iT,Y0,.sattr 13] [Y9,.chk,.ite [.lit (.raw (.builtin "min")),Y0,.attr 12,(iI 1),.bin .Add,Y0,.attr 4,(iI 1),.bin .Sub,.call 2,Y0,.sattr 12] [Y4,(iI 2),.idx,.chk,.ite [Y0,.mth 12,.call 1,.pop] []]]] []]) []
   [some (.ref ct),some (.ref a),x2,some (.int fst),some (.tup [.int crow,.int ccol,.bool cw]),some (.int L.length),some (.int lst),some (.bool hv),some (.int off),some (.bool false),some (.ref ps),some (.ref pl),some (.bool bh),x13,x14,x15,x16,x17,x18] H
   Q:=by
 have lbl:=hP lb (List.mem_of_getElem? hlb)
 refine znT o os ol ob n6 ⟨by exact zbO (.i (.A (.l Va (.k 500)) (.A (.l (.a Vb Va) (.k 5000)) (.A (.l (.a Vc Vd) (.k 900)) (.A (.l Ve (.k 9000)) (.l Vf (.k 900)))))) (.l Va (.k 900))) rfl hb,hb.2.1⟩ fun spl1 y13 y14 hs1=>?_
 have o1:=zak o (zam o os rfl) (m':=.list spl1)
 have li1:=zak hli n8 (m':=.list spl1)
 have ol1:=zak ol (zam ol os rfl) (m':=.list spl1)
 have ob1:=zak ob n6 (m':=.list spl1)
 have sp1:zab H sp (.list spl1) sp=some (.list spl1):=zai
 have A1:zbH (zab H sp (.list spl1)) ps pl qs P places:=A.keeps fun y m z q=>zak z (by
  rcases q with rfl | rfl | q
  ·exact n3
  ·exact n4
  ·exact zcv n5 q)
 have kp1:∀ y m,H y=some m→y≠sp→zab H sp (.list spl1) y=some m:=fun y m z q=>zak z q
 have bk1:∀ y,zab H sp (.list spl1) y=none→H y=none:=fun y z=>by
  unfold zab at z; split at z; · injection z
  ·exact z
 generalize zab H sp (.list spl1)=H1 at *
 refine znP hcols o1 li1 ol1 A1.hps A1.len A1.hqs n1 n2 hP hb.2.2.1 fun H2 new y15 y16 y17 li2 nl N kp2=>?_
 have o2:=kp2 _ _ o1 (zam o1 li1 rfl)
 have ol2:=kp2 _ _ ol1 (zam ol1 li1 rfl)
 have ob2:=kp2 _ _ ob1 n7
 have sp2:=kp2 _ _ sp1 n8.symm
 have A2:zbH H2 ps pl qs P places:=A1.keeps fun y m z q=>kp2 _ _ z (by
  rcases q with rfl | rfl | q
  ·exact n1
  ·exact n9
  ·exact zcv n2 q)
 have N2:zck cols P.length H H2 li P new:=⟨N.at_,fun l hl=>⟨bk1 _ (N.fr l hl).1,bk1 _ (N.fr l hl).2⟩,N.nda,N.ndc,N.cs⟩
 have kp:∀ y m,H y=some m→y≠ct→y≠li→y≠sp→H2 y=some m:=fun y m z _ q1 q2=>kp2 _ _ (kp1 _ _ z q2) q1
 have base:∀ {H3:Hp} {fi' ro' co':Nat} {wa':Bool},H3=zab H2 ct (.inst 644 (ctF cols li fi' ro' co' wa' sp))→PutR cols H H3 ct li sp L P new fi' ro' co' wa' (spl.length+bl.length):=by
  intro H3 fi' ro' co' wa' e
  subst e
  have nn:∀ {y m},H2 y=some m→(m.kd == 647)=false→zab H2 ct (.inst 644 (ctF cols li fi' ro' co' wa' sp)) y=some m:=fun x y=>zak x (zam x o2 y)
  exact ⟨zai,nn li2 rfl,⟨spl1,nn sp2 rfl,by exact zaj (.i (.l Va (.a Vb Vc)) (.l Va (.a Vb Vc))) rfl hs1⟩,nl,N2.keeps fun l _ z=>⟨nn z.o rfl,nn z.cs rfl⟩,fun y m z q q1 q2=>zak (kp y m z q q1 q2) q⟩
 have cur:∀ {H3:Hp} {fi':Nat} {z18:Option V},H3=zab H2 ct (.inst 644 (ctF cols li fi' ro co wa sp))→(f≤fst∧fst≤lst→∃ n,bl[fst - f]?=some n∧fi'=L.length+(plc places P.length lb.length n).1)→(¬ (f≤fst∧fst≤lst)→fi'=fi) →
   Run W 6 [Y7,.chk,.ite [.lit (.raw (.ref 585)),Y10,Y11,Y8,.call 3,.sto 18,Y5,Y18,(iI 0),.idx,.bin .Add,.lit (.raw (.builtin "min")),Y18,(iI 1),.idx,Y0,.attr 4,(iI 1),.bin .Sub,.call 2,.tup 2,.unp 2,Y0,.sattr 11,Y0,.sattr 12,Y12,.chk,.ite [iT,Y0,.sattr 13] [Y9,.chk,.ite [.lit (.raw (.builtin "min")),Y0,.attr 12,(iI 1),.bin .Add,Y0,.attr 4,(iI 1),.bin .Sub,.call 2,Y0,.sattr 12] [Y4,(iI 2),.idx,.chk,.ite [Y0,.mth 12,.call 1,.pop] []]]] []] []
    [some (.ref ct),some (.ref a),x2,some (.int fst),some (.tup [.int crow,.int ccol,.bool cw]),some (.int L.length),some (.int lst),some (.bool hv),some (.int off),some (.bool false),some (.ref ps),some (.ref pl),some (.bool bh),y13,y14,y15,y16,y17,z18] H3
    Q:=by
  intro H3 fi' z18 e3 hf1 hf2
  induction hv with
  | false =>
   walk_at "r"
   exact Run.nil (done _ new fi' (ro) (co) (wa) _ (base e3) hf1 hf2 (fun z=>Bool.noConfusion z) (fun _=>⟨rfl,rfl,rfl⟩))
  | true =>
   have o3:H3 ct=some (.inst 644 (ctF cols li fi' ro co wa sp)):=by rw [e3]; exact zai
   have A3:zbH H3 ps pl qs P places:=by
    rw [e3]
    exact ⟨zak A2.hps (zam A2.hps o2 rfl),zak A2.hpl (zam A2.hpl o2 rfl),A2.len,fun i q b x y=>zak (A2.hqs i q b x y) (zam (A2.hqs i q b x y) o2 rfl)⟩
   have o3':=o3
   unfold ctF at o3'
   walk_at "r"
   refine za0 ((zjm A3 hlb ⟨by exact zbO (.i (.A (.l Va (.k 500)) (.A (.l (.a Vb Va) (.k 5000)) (.A (.l (.a Vc Vd) (.k 900)) (.A (.l Ve (.k 9000)) (.l Vf (.k 900)))))) (.l Vd (.k 900))) rfl hb,hb.2.2.2.2,by exact zad (.i (.A (.l K2 Va) (.l Va (.k 7))) (.i (.l Vb Va) (.l Vb (.k 900)))) rfl hcols lbl,hb.2.2.2.1⟩).tu rfl) rfl ?_
   refine zat ?_
   generalize hpp:plc places P.length lb.length off=pp at *
   walk_at "r"
   rw [show (L.length:Int)+(pp.1:Int)=((L.length+pp.1:Nat):Int) from rfl,zil _ (Nat.le_of_lt hcols.1)]
   refine zaq o3' rfl rfl ?_
   walk_at "r"
   refine zaq zai rfl rfl ?_
   rw [zaC]
   have e4:zab H3 ct (.inst 644 (zaF 12 (.int (min pp.2 (cols - 1):Nat)) (zaF 11 (.int ((L.length+pp.1:Nat):Int)) [(4,V.int cols),(5,.ref li),(8,.int fi'),(11,.int ro),(12,.int co),(13,.bool wa),(14,.ref sp)])))=zab H2 ct (.inst 644 (ctF cols li fi' (L.length+pp.1) (min pp.2 (cols - 1)) wa sp)):=by
    rw [e3,zaC]; rfl
   rw [e4]
   have o4:zab H2 ct (.inst 644 (ctF cols li fi' (L.length+pp.1) (min pp.2 (cols - 1)) wa sp)) ct=some (.inst 644 (ctF cols li fi' (L.length+pp.1) (min pp.2 (cols - 1)) wa sp)):=zai
   have o4':=o4
   unfold ctF at o4'
   induction bh with
   | true =>
    walk_at "r"
    refine zaq o4 rfl rfl ?_
    rw [zaC]
    exact Run.nil (done _ new fi' (L.length+pp.1) (min pp.2 (cols - 1)) (true) _ (base rfl) hf1 hf2 (fun _=>⟨rfl,rfl⟩) (fun z=>Bool.noConfusion z))
   | false =>
    walk_at "r"
    induction cw with
    | false =>
     walk_at "r"
     exact Run.nil (done _ new fi' (L.length+pp.1) (min pp.2 (cols - 1)) (wa) _ (base rfl) hf1 hf2 (fun _=>⟨rfl,rfl⟩) (fun z=>Bool.noConfusion z))
    | true =>
     walk_at "r"
     refine zav ((zpj o4).tu rfl) rfl ?_
     refine zat ?_
     rw [zaC]
     walk_at "r"
     exact Run.nil (done _ new fi' (L.length+pp.1) (_) (_) _ (base rfl) hf1 hf2 (fun _=>⟨rfl,rfl⟩) (fun z=>Bool.noConfusion z))
 have ol2':=ol2
 have o2':=o2
 unfold llF at ol2'
 unfold ctF at o2'
 have self2:H2=zab H2 ct (.inst 644 (ctF cols li fi ro co wa sp)):=(zbE o2).symm
 walk_at "r"
 by_cases q1:f≤fst
 ·refine r_t (decide_eq_true (zad (.i (.l Va Vb) (.L (.c Va) (.c Vb))) rfl q1)) ?_
  walk_at "c"
  by_cases q2:fst≤lst
  ·refine r_t (decide_eq_true (zad (.i (.l Va Vb) (.L (.c Va) (.c Vb))) rfl q2)) ?_
   have hlt:=hlst q1 q2
   obtain ⟨n,hn⟩:∃ n,bl[fst - f]?=some n:=⟨_,List.getElem?_eq_getElem hlt⟩
   have nn:=hbl n (List.mem_of_getElem? hn)
   walk_at "c"
   rw [show (fst:Int) - (f:Int)=((fst - f:Nat):Int) by exact zad (.i (.l Va Vb) (.E (.s (.c Vb) (.c Va)) (.c (.s Vb Va)))) rfl q1]
   refine zaB ob2 (zb6 (.i (.A (.l Va (.k 500)) (.A (.l (.a Vb Va) (.k 5000)) (.A (.l (.a Vc Vd) (.k 900)) (.A (.l Ve (.k 9000)) (.l Vf (.k 900)))))) (.i (.t (.s Vg Vh) Va) (.A (.L (.g (.k 1000)) (.c (.s Vg Vh))) (.L (.c (.s Vg Vh)) (.k 1000))))) rfl hb hlt) (x:=.int (n:Nat)) (zba (by unfold zaH; rw [List.getElem?_map,hn]; rfl)) ?_
   refine za0 ((zjm A2 hlb ⟨by exact zbO (.i (.A (.l Va (.k 500)) (.A (.l (.a Vb Va) (.k 5000)) (.A (.l (.a Vc Vd) (.k 900)) (.A (.l Ve (.k 9000)) (.l Vf (.k 900)))))) (.l Vd (.k 900))) rfl hb,by exact zag (.i (.l Va (.k 900)) (.l Va (.k 900))) rfl nn,by exact zad (.i (.A (.l K2 Va) (.l Va (.k 7))) (.i (.l Vb Va) (.l Vb (.k 900)))) rfl hcols lbl,hb.2.2.2.1⟩).tu rfl) rfl ?_
   refine zat ?_
   walk_at "r"
   rw [show (L.length:Int)+((plc places P.length lb.length n).1:Int)=((L.length+(plc places P.length lb.length n).1:Nat):Int) by exact zad (.E (.a (.c Va) (.c Vb)) (.c (.a Va Vb))) rfl]
   refine zaq o2' rfl rfl ?_
   exact cur rfl (fun _=>⟨n,hn,rfl⟩) (fun z=>absurd ⟨q1,q2⟩ z)
  ·refine r_f (decide_eq_false (zad (.i (.n (.l Va Vb)) (.n (.L (.c Va) (.c Vb)))) rfl q2)) ?_
   rw [List.nil_append]
   exact cur self2 (fun z=>absurd z.2 q2) (fun _=>rfl)
 ·refine r_f (decide_eq_false (zad (.i (.n (.l Va Vb)) (.n (.L (.c Va) (.c Vb)))) rfl q1)) ?_
  rw [List.cons_append,List.cons_append,List.nil_append]
  refine Run.pop (Run.lit (Run.chk (r_f rfl ?_)))
  rw [List.nil_append]
  exact cur self2 (fun z=>absurd z.1 q1) (fun _=>rfl)
end
theorem zhA {cols:Nat} (hc:2≤cols):∀ (v:List zaa) (g:Gp),(∀ b ∈ g.1,(zac b).length≤cols)→(zac g.2).length≤cols→(∀ c ∈ v,Sw c)→∀ b ∈ (v.foldl (zaJ cols) g).1,(zac b).length≤cols
 | [],_,h,_,_=>h
 | c::v,g,h,h2,hv=>by
  have hw:=hv c (by simp)
  have cw:=zbR hw
  rw [List.foldl_cons]
  refine zhA hc v _ ?_ ?_ fun y hy=>hv y (by simp [hy])
  ·unfold zaJ
   split
   ·exact h
   ·intro b hb
    rcases List.mem_append.mp hb with hb | hb
    ·exact h b hb
    ·rw [List.mem_singleton.mp hb]; exact h2
  ·unfold zaJ
   split
   ·show (zac (g.2++[c])).length≤cols
    rw [zaW,za1,List.length_append,zbF hw]; assumption
   ·show (zac [c]).length≤cols
    rw [za1,zbF hw]; exact zad (.i (.l K2 Va) (.i (.A (.l K1 Vb) (.l Vb K2)) (.l Vb Va))) rfl hc cw
theorem zhB {cols:Nat} (hc:2≤cols) (u:List zaa) (hu:∀ c ∈ u,Sw c):∀ b ∈ (cut cols u).1,(zac b).length≤cols:=zhA hc u ([],[]) (by simp) (Nat.zero_le _) hu
theorem ziv {cols:Nat} {b:List zaa} (h:(zac b).length≤cols):(za9 cols b).length=cols:=by unfold za9 zaz; simp; exact zad (.i (.l Va Vb) (.e (.a Va (.s Vb Va)) Vb)) rfl h
theorem znA (cols:Nat) (b:List zaa):za9 cols b=zac b++List.replicate (cols - (zac b).length) zar:=rfl
noncomputable def zbX (cols:Nat) (g:Gp):List (List zaa × Bool):=(zap g).map fun q=>zaz cols (zac q.1,q.2)
theorem zql {cols:Nat} (hc:2≤cols) {H H':Hp} {li:Nat} {B:List (List zaa)} {r rr:List zaa} {new:List Ln} (hB:∀ b ∈ B,(zac b).length≤cols) (N:zck cols (B.length+1) H H' li (B.map (za9 cols)++[rr]) new) (hl:new.length=B.length+1) (hr:rr++List.replicate (cols - rr.length) zar=za9 cols r) :
  new.map (fun l=>(l.cells,l.wr))=zbX cols (B,r):=by
 apply List.ext_getElem?
 intro j
 unfold zbX
 rw [List.getElem?_map,List.getElem?_map]
 by_cases q:j < B.length
 ·obtain ⟨l,hlj⟩:∃ l,new[j]?=some l:=⟨_,List.getElem?_eq_getElem (zaj (.i (.e Va (.a Vb K1)) (.i (.t Vc Vb) (.t Vc Va))) rfl hl q)⟩
  obtain ⟨b,hbj⟩:∃ b,B[j]?=some b:=⟨_,List.getElem?_eq_getElem q⟩
  have bl:=hB b (List.mem_of_getElem? hbj)
  obtain ⟨c1,c2⟩:=N.cs j l (za9 cols b) hlj (by rw [List.getElem?_append_left (by simpa using q),List.getElem?_map,hbj]; rfl)
  rw [hlj,zcI (g:=(B,r)) hbj,Option.map_some,Option.map_some,c1,c2,ziv bl,Nat.sub_self,List.replicate_zero,List.append_nil,decide_eq_true (by exact zad (.i (.t Va Vb) (.t (.a Va K1) (.a Vb K1))) rfl q)]
  rfl
 ·by_cases q2:j=B.length
  ·subst q2
   obtain ⟨l,hlj⟩:∃ l,new[B.length]?=some l:=⟨_,List.getElem?_eq_getElem (zad (.i (.e Va (.a Vb K1)) (.t Vb Va)) rfl hl)⟩
   obtain ⟨c1,c2⟩:=N.cs _ l rr hlj (by rw [List.getElem?_append_right (by simp)]; simp)
   rw [hlj,zdn (g:=(B,r)),Option.map_some,Option.map_some,c1,c2,hr,decide_eq_false (by exact zag (.n (.t (.a Va K1) (.a Va K1))) rfl)]
   rfl
  ·rw [List.getElem?_eq_none (by exact zaj (.i (.e Va (.a Vb K1)) (.i (.n (.t Vc Vb)) (.i (.n (.e Vc Vb)) (.l Va Vc)))) rfl hl q q2),List.getElem?_eq_none (by unfold zap; simp; exact zad (.i (.n (.t Va Vb)) (.i (.n (.e Va Vb)) (.l (.a Vb K1) Va))) rfl q q2)]; rfl
theorem zj1 (n:Nat) (l:List (List zaa)) (p:List zaa):zaP n (l++[p])=zaP n l++[n+(zac l.flatten).length]:=by rw [zev]; rfl
theorem zj2 (n:Nat) (l:List (List zaa)):∀ m ∈ zaP n l,m≤n+(zac l.flatten).length:=by
 induction l generalizing n with
 | nil=>simp [zaP]
 | cons p l ih =>
  intro m hm
  rw [zaP] at hm
  rcases List.mem_cons.mp hm with rfl | hm
  ·exact zad (.l Va (.a Va Vb)) rfl
  ·have:=ih _ m hm
   rw [List.flatten_cons,zaW,List.length_append]; exact zaG (.i (.l Va (.a (.a Vb Vc) Vd)) (.l Va (.a Vb (.a Vc Vd)))) rfl this
theorem zj0 {n:Nat} {l:List (List zaa)} {m:Nat} (h:(zaP n l)[0]?=some m):m=n:=by
 induction l using List.casesOn with
 | nil=>simp [zaP] at h
 | cons p l=>simpa [zaP] using h.symm
structure zjE (cols:Nat) (H H':Hp) (ct li sp c:Nat) (L:List Ln) (u:List zaa) (new:List Ln) (fi ro co:Nat) (wa:Bool) (spn:Nat):Prop where
 o:H' ct=some (.inst 644 (ctF cols li fi ro co wa sp))
 hli:H' li=some (.list (zah (L++new)))
 hsp:∃ spl,H' sp=some (.list spl)∧spl.length≤spn
 view:new.map (fun l=>(l.cells,l.wr))=zbX cols (cut cols u)
 at_:∀ l ∈ new,zaD H' l
 fr:∀ l ∈ new,H l.a=none∧H l.c=none
 nda:(new.map (·.a)).Nodup
 ndc:(new.map (·.c)).Nodup
 kp:∀ y m,H y=some m→y≠ct→y≠li→y≠sp→y≠c→H' y=some m
 hc:∃ m,H' c=some m
section
variable {W:Wx} {H:Hp}
inductive zdG (cols ct li sp fst crow fi ro co:Nat) (wa:Bool) (L:List Ln) (ll:LL) (u:List zaa) (n:Nat) (H:Hp) (x:V) (H':Hp):Prop
 | mk (e:x=.none) (new:List Ln) (fi' ro' co':Nat) (wa':Bool) (p:zjE cols H H' ct li sp ll.c L u new fi' ro' co' wa' (n+(ll.g.1.length+1)))
  (h1:ll.f≤fst∧fst≤ll.f+ll.g.1.length→∃ k,fi'=L.length+k∧(fst=ll.f→k=0)) (h2:¬ (ll.f≤fst∧fst≤ll.f+ll.g.1.length)→fi'=fi)
  (h3:ll.f≤crow∧crow≤ll.f+ll.g.1.length→ro'=L.length+(cut cols u).1.length∧co'=min (zac (cut cols u).2).length (cols - 1)∧wa'=((zac (cut cols u).2).length == cols)) (h4:¬ (ll.f≤crow∧crow≤ll.f+ll.g.1.length)→ro'=ro∧co'=co∧wa'=wa)
theorem zpb {ct li sp la cols fi ro co fst crow ccol:Nat} {wa cw:Bool} {spl:List V} {L:List Ln} {ll:LL} (hcols:2≤cols∧cols≤7) (o:H ct=some (.inst 644 (ctF cols li fi ro co wa sp))) (hli:H li=some (.list (zah L))) (os:H sp=some (.list spl)) (hl:zcN H ll) (hu:∀ c ∈ ll.g.ps.flatten,Sg c)
  (n1:ll.b≠li) (n2:ll.b≠sp) (n3:ll.c≠li) (n4:ll.c≠sp) (n5:ll.b≠ll.c) (n6:li≠sp) (hb:ll.g.ps.flatten.length≤100∧(zac ll.g.ps.flatten).length≤200∧ll.g.1.length≤400∧spl.length≤4000∧L.length≤500∧ll.f≤900∧crow≤900)
  (hcur:ll.f≤crow∧crow≤ll.f+ll.g.1.length→crow=ll.f+ll.g.1.length∧ccol+(if cw then 1 else 0)=(zac ll.g.2).length∧wa=false) :
  zae W 7 (.ref 613) [.ref ct,.ref ll.a,.ref la,.int fst,.tup [.int crow,.int ccol,.bool cw]] H (zdG cols ct li sp fst crow fi ro co wa L ll ll.g.ps.flatten spl.length H):=by
 refine zl0 _ _ _ _ _ ?_
 unfold zgZ
 have o':=o
 have lo:=hl.o
 have lb:=hl.b
 have lc:=hl.c
 unfold ctF at o'
 have lo':=lo
 unfold llF at lo'
 generalize hU:ll.g.ps.flatten=u at *
 have huw:∀ c ∈ u,Sw c:=fun c hc=>(hu c hc).1
 have lenP:ll.g.ps.length=ll.g.1.length+1:=by unfold Gp.ps; simp
 have lbl:(zaH (zaP 0 ll.g.ps)).length=ll.g.1.length+1:=by simp [zaH,zco,lenP]
 have lrl:(zah L).length=L.length:=by simp [zah]
 have cutlen:(cut cols u).1.length≤u.length:=by
  have:∀ (v:List zaa) (g:Gp),(v.foldl (zaJ cols) g).1.length≤g.1.length+v.length:=by
   intro v
   induction v with
   | nil=>intro g; simp
   | cons c v ih =>
    intro g
    rw [List.foldl_cons]
    refine Nat.le_trans (ih _) ?_
    unfold zaJ
    split <;> simp <;> exact zad (.l (.a (.a Va K1) Vb) (.a Va (.a Vb K1))) rfl
  have:=this u ([],[])
  simpa [cut] using this
 have eg2:(zac u).length=(zac ll.g.1.flatten).length+(zac ll.g.2).length:=by
  rw [← hU]; unfold Gp.ps; rw [List.flatten_append,zaW,List.length_append]; simp
 have ebl:zaP 0 ll.g.ps=zaP 0 ll.g.1++[(zac ll.g.1.flatten).length]:=by
  unfold Gp.ps; rw [zj1,Nat.zero_add]
 have bl1:(zaP 0 ll.g.1).length=ll.g.1.length:=zco _ _
 walk_at "r"
 rw [lrl,lbl,show (ll.f:Int)+((ll.g.1.length+1:Nat):Int) - 1=((ll.f+ll.g.1.length:Nat):Int) by exact zad (.E (.s (.a (.c Va) (.c (.a Vb K1))) K1) (.c (.a Va Vb))) rfl]
 have finish:∀ {H3:Hp} {ps pl off:Nat} {qs:List Nat} {places:List (Nat × Nat)} {rr:List zaa} {hv bh:Bool} {x13 x14 x15 x16 x17 x18:Option V},(∀ y m,H y=some m→y≠ll.c→H3 y=some m)→(∃ m,H3 ll.c=some m)→zbH H3 ps pl qs ((cut cols u).1.map (za9 cols)++[rr]) places→(ps≠li∧li ∉ qs∧ps≠sp∧pl≠sp∧sp ∉ qs∧pl≠li)→rr.length≤cols→rr++List.replicate (cols - rr.length) zar=za9 cols (cut cols u).2→places.length≤9000→off≤900 →
   (plc places ((cut cols u).1.length+1) rr.length 0).1=0→(hv=true↔(ll.f≤crow∧crow≤ll.f+ll.g.1.length)) →
   (hv=true→(plc places ((cut cols u).1.length+1) rr.length off).1=(cut cols u).1.length∧zcp cols bh cw (min (plc places ((cut cols u).1.length+1) rr.length off).2 (cols - 1)) false=(min (zac (cut cols u).2).length (cols - 1),((zac (cut cols u).2).length == cols))) →
   Run W 6 (Y1::.attr 9::.fr .enum 1 [.unp 2,.sto 13,.sto 14] [Y0,.attr 14,.mth 41,Y5,Y14,Y1,.mth 10,Y13,.call 2,Y10,Y11,.tup 5,.call 2,.pop]::Y10::.fr .enum 1 [.unp 2,.sto 15,.sto 16] [Y15,(iI 1),.bin .Add,.lit (.raw (.builtin "len")),Y10,.call 1,.cmp .Lt,.chk,.ite [iT] [Y1,.attr 10,.chk,.notb],.sto 17,Y0,.attr 5,.mth 41,.lit (.raw (.ref 592)),Y16,Y0,.attr 4,Y17,.call 3,.call 2,.pop] ::
    [Y1,.attr 8,Y3,.cmpk .LtE,.ite [Y6,.cmp .LtE] [.pop,iF],.chk,.ite [.lit (.raw (.ref 585)),Y10,Y11,Y1,.attr 9,Y3,Y1,.attr 8,.bin .Sub,.idx,.call 3,.sto 18,Y5,Y18,(iI 0),.idx,.bin .Add,Y0,.sattr 8] [],Y7,.chk,.ite [.lit (.raw (.ref 585)),Y10,Y11,Y8,.call 3,.sto 18,Y5,Y18,(iI 0),.idx,.bin .Add,.lit (.raw (.builtin "min")),Y18,(iI 1),.idx,Y0,.attr 4,(iI 1),.bin .Sub,.call 2,.tup 2,.unp 2,Y0,.sattr 11,Y0,.sattr 12,Y12,.chk,.ite [iT,Y0,.sattr 13] [Y9,.chk,.ite [.lit (.raw (.builtin "min")),Y0,.attr 12,(iI 1),.bin .Add,Y0,.attr 4,(iI 1),.bin .Sub,.call 2,Y0,.sattr 12] [Y4,(iI 2),.idx,.chk,.ite [Y0,.mth 12,.call 1,.pop] []]]] []]) []
    [some (.ref ct),some (.ref ll.a),some (.ref la),some (.int fst),some (.tup [.int crow,.int ccol,.bool cw]),some (.int L.length),some (.int ((ll.f+ll.g.1.length:Nat):Int)),some (.bool hv),some (.int off),some (.bool false),some (.ref ps),some (.ref pl),some (.bool bh),x13,x14,x15,x16,x17,x18] H3
    (zan (zdG cols ct li sp fst crow fi ro co wa L ll u spl.length H)):=by
  intro H3 ps pl off qs places rr hv bh x13 x14 x15 x16 x17 x18 kp3 hc3 A sep hrr hpad hpl hoff hz hhv hcu
  obtain ⟨s1,s2,s3,s4,s5,s6⟩:=sep
  have lP:((cut cols u).1.map (za9 cols)++[rr]).length=(cut cols u).1.length+1:=by simp
  have nct:ct≠ll.c:=zam o lc rfl
  have na:ll.a≠ll.c:=zam lo lc rfl
  refine znU (bl:=zaP 0 ll.g.ps) (lb:=rr) hcols (kp3 _ _ o nct) (kp3 _ _ hli n3.symm) (kp3 _ _ os n4.symm) (kp3 _ _ lo na) (kp3 _ _ lb n5) A s1 s2 s3 s4 s5 n2 n1 n6 s6 (fun b hb'=>?_) (by rw [lP]; simp) ⟨by rw [zco,lenP]; exact zbz (.i (.A (.l Va (.k 100)) (.A (.l Vb (.k 200)) (.A (.l Vc (.k 400)) (.A (.l Vd (.k 4000)) (.A (.l Ve (.k 500)) (.A (.l Vf (.k 900)) (.l Vg (.k 900)))))))) (.l (.a Vc K1) (.k 500))) rfl hb,by rw [zco,lenP]; exact zbz (.i (.A (.l Va (.k 100)) (.A (.l Vb (.k 200)) (.A (.l Vc (.k 400)) (.A (.l Vd (.k 4000)) (.A (.l Ve (.k 500)) (.A (.l Vf (.k 900)) (.l Vg (.k 900)))))))) (.l (.a Vd (.a Vc K1)) (.k 5000))) rfl hb,by rw [lP]; exact zb6 (.i (.A (.l Va (.k 100)) (.A (.l Vb (.k 200)) (.A (.l Vc (.k 400)) (.A (.l Vd (.k 4000)) (.A (.l Ve (.k 500)) (.A (.l Vf (.k 900)) (.l Vg (.k 900)))))))) (.i (.l Vh Va) (.l (.a Ve (.a Vh K1)) (.k 900)))) rfl hb cutlen,hpl,hoff⟩ (fun n hn=>?_) (fun q1 q2=>by rw [zco,lenP]; exact zaj (.i (.l Va (.a Vb Vc)) (.t (.s Va Vb) (.a Vc K1))) rfl q2) fun H' new fi' ro' co' wa' ρ' P hf1 hf2 hc1 hc2=>?_
  ·rcases List.mem_append.mp hb' with hb' | hb'
   ·obtain ⟨x,hx,rfl⟩:=List.mem_map.mp hb'
    exact Nat.le_of_eq (ziv (zhB hcols.1 u huw x hx))
   ·rw [List.mem_singleton.mp hb']; exact hrr
  ·have:=zj2 0 ll.g.ps n hn
   rw [hU] at this; exact zb6 (.i (.A (.l Va (.k 100)) (.A (.l Vb (.k 200)) (.A (.l Vc (.k 400)) (.A (.l Vd (.k 4000)) (.A (.l Ve (.k 500)) (.A (.l Vf (.k 900)) (.l Vg (.k 900)))))))) (.i (.l Vh (.a K0 Vb)) (.l Vh (.k 900)))) rfl hb this
  ·rw [lP] at hf1 hc1
   have N:=P.N
   rw [lP] at N
   have bk:∀ y,H3 y=none→H y=none:=fun y z=>by
    induction h:H y with
    | none=>rfl
    | some m =>
     by_cases q:y=ll.c
     ·obtain ⟨m',hm'⟩:=hc3; rw [q,hm'] at z; injection z
     ·rw [kp3 _ _ h q] at z; injection z
   refine ⟨rfl,new,fi',ro',co',wa',⟨P.o,P.hli,?_,zql hcols.1 (zhB hcols.1 u huw) N (by rw [P.len,lP]; rfl) hpad,N.at_,fun l hl'=>⟨bk _ (N.fr l hl').1,bk _ (N.fr l hl').2⟩,N.nda,N.ndc,fun y m z q1 q2 q3 q4=>P.kp y m (kp3 y m z q4) q1 q2 q3,hc3.elim fun m hm=>⟨m,P.kp _ _ hm nct.symm n3 n4⟩⟩,fun q=>?_,hf2,fun q=>?_,fun q=>?_⟩
   ·obtain ⟨spl',h1,h2⟩:=P.hsp
    exact ⟨spl',h1,by rw [zco,lenP] at h2; exact h2⟩
   ·obtain ⟨n,h1,h2⟩:=hf1 q
    refine ⟨_,h2,fun z=>?_⟩
    rw [z,Nat.sub_self] at h1
    rw [zj0 h1]; exact hz
   ·have hv1:=hhv.mpr q
    obtain ⟨c1,c2⟩:=hc1 hv1
    obtain ⟨d1,d2⟩:=hcu hv1
    have ew:=(hcur q).2.2
    rw [ew,d2] at c2
    rw [d1] at c1
    exact ⟨c1,congrArg Prod.fst c2,congrArg Prod.snd c2⟩
   ·have:hv=false:=by induction hq:hv with | false=>rfl | true=>exact absurd (hhv.mp hq) q
    exact hc2 this
 have pz:∀ {places:List (Nat × Nat)} {u':List zaa} {rr:List zaa},zdb u' (cut cols u') places→(cut cols u).1.length=(cut cols u').1.length→(u'=[]→(cut cols u).1.length=0)→(plc places ((cut cols u).1.length+1) rr.length 0).1=0:=by
  intro places u' rr hp _ he
  unfold plc
  induction h:places[0]? with
  | some p=>rw [hp.hd p h]
  | none =>
   have h0:places.length=0:=by have:=List.getElem?_eq_none_iff.mp h; exact zag (.i (.l Va K0) (.e Va K0)) rfl this
   have:u'=[]:=by
    induction u' using List.casesOn with
    | nil=>rfl
    | cons y t =>
     have h1:=hp.len
     have h2:=zdf (c:=y) (t:=t)
     have:=(List.getElem?_eq_some_iff.mp h2).1
     lia
   rw [he this]
 have rle:=zcT (cols:=cols) hcols.1 u huw
 have sepOf:∀ {H2 H3:Hp} {ps pl:Nat} {qs:List Nat} {places:List (Nat × Nat)} {u':List zaa},CutR cols u' H2 H3 ps pl qs places→H2 li=some (.list (zah L))→H2 sp=some (.list spl)→(ps≠li∧li ∉ qs∧ps≠sp∧pl≠sp∧sp ∉ qs∧pl≠li):=by
  intro H2 H3 ps pl qs places u' C h1 h2
  obtain ⟨f1,f2,f3⟩:=C.fr
  exact ⟨(zal h1 f1).symm,fun z=>zal h1 (f3 _ z) rfl,(zal h2 f1).symm,(zal h2 f2).symm,fun z=>zal h2 (f3 _ z) rfl,(zal h1 f2).symm⟩
 by_cases has:ll.f≤crow∧crow≤ll.f+ll.g.1.length
 ·obtain ⟨k1,k2,k3⟩:=hcur has
  refine r_t (decide_eq_true (zaj (.i (.A (.l Va Vb) (.l Vb (.a Va Vc))) (.L (.c Va) (.c Vb))) rfl has)) ?_
  walk_at "c"
  rw [decide_eq_true (show (crow:Int)≤((ll.f+ll.g.1.length:Nat):Int) by exact zaj (.i (.A (.l Va Vb) (.l Vb (.a Va Vc))) (.L (.c Vb) (.c (.a Va Vc)))) rfl has)]
  walk_at "r"
  rw [show (crow:Int) - (ll.f:Int)=((zaP 0 ll.g.1).length:Int) by rw [bl1]; exact zaj (.i (.e Va (.a Vb Vc)) (.E (.s (.c Va) (.c Vb)) (.c Vc))) rfl k1]
  have lb':=lb
  rw [ebl] at lb'
  refine za0 ((zpD lo lb' (by rw [bl1]; exact zbz (.i (.A (.l Va (.k 100)) (.A (.l Vb (.k 200)) (.A (.l Vc (.k 400)) (.A (.l Vd (.k 4000)) (.A (.l Ve (.k 500)) (.A (.l Vf (.k 900)) (.l Vg (.k 900)))))))) (.l Vc (.k 900))) rfl hb)).tu rfl) rfl ?_
  refine zat ?_
  walk_at "r"
  generalize hoff:(zac ll.g.1.flatten).length+ccol=off at *
  refine zas ((zej hcols lc huw ⟨by exact zbz (.i (.A (.l Va (.k 100)) (.A (.l Vb (.k 200)) (.A (.l Vc (.k 400)) (.A (.l Vd (.k 4000)) (.A (.l Ve (.k 500)) (.A (.l Vf (.k 900)) (.l Vg (.k 900)))))))) (.l Va (.k 300))) rfl hb,by exact zbz (.i (.A (.l Va (.k 100)) (.A (.l Vb (.k 200)) (.A (.l Vc (.k 400)) (.A (.l Vd (.k 4000)) (.A (.l Ve (.k 500)) (.A (.l Vf (.k 900)) (.l Vg (.k 900)))))))) (.l Vb (.k 800))) rfl hb⟩).tu rfl) rfl ?_
  rintro _ H2 ⟨ps,pl,qs,places,rfl,C⟩
  have lc2:=C.ext _ _ lc
  have lo2:=C.ext _ _ lo
  have o2:=C.ext _ _ o
  have o2':=o2
  have lo2':=lo2
  unfold ctF at o2'
  unfold llF at lo2'
  have A:zbH H2 ps pl qs ((cut cols u).1.map (za9 cols)++[zac (cut cols u).2]) places:=⟨C.hps,C.hpl,C.len,C.hqs⟩
  have plen:places.length=(zac u).length:=C.pk.len
  walk_at "r"
  have lastc:∀ (h:0 < (zac u).length),places[places.length - 1]?=some ((cut cols u).1.length,(zac (cut cols u).2).length - 1):=fun h=>C.pk.lst fun z=>by rw [z] at h; simp [zac] at h
  have cpos:0 < (zac u).length→0 < (zac (cut cols u).2).length:=fun h=>by
   rcases List.eq_nil_or_concat u with rfl | ⟨t,c,rfl⟩
   ·simp [zac] at h
   ·rw [List.concat_eq_append,zcc]
    have hw:=huw c (by simp)
    unfold zaJ
    split
    ·show 0 < (zac ((cut cols t).2++[c])).length
     rw [zaW,za1,List.length_append,zbF hw]; rcases hw with q | q <;> lia
    ·show 0 < (zac [c]).length
     rw [za1,zbF hw]; rcases hw with q | q <;> lia
  have kc:(cw=true∨(cw=false∧(zac (cut cols u).2).length < cols))→Run W 6 (Y7::.chk::.ite [Y12,.chk,.notb] [iF]::.ite [Y1,.mth 9,Y8,(iI 1),.bin .Add,.call 2,.pop,.lit (.raw (.ref 578)),Y1,.attr 0,Y0,.attr 4,.call 2,.unp 2,.sto 10,.sto 11] []::(Y1::.attr 9::.fr .enum 1 [.unp 2,.sto 13,.sto 14] [Y0,.attr 14,.mth 41,Y5,Y14,Y1,.mth 10,Y13,.call 2,Y10,Y11,.tup 5,.call 2,.pop]::Y10::.fr .enum 1 [.unp 2,.sto 15,.sto 16] [Y15,(iI 1),.bin .Add,.lit (.raw (.builtin "len")),Y10,.call 1,.cmp .Lt,.chk,.ite [iT] [Y1,.attr 10,.chk,.notb],.sto 17,Y0,.attr 5,.mth 41,.lit (.raw (.ref 592)),Y16,Y0,.attr 4,Y17,.call 3,.call 2,.pop] ::
    [Y1,.attr 8,Y3,.cmpk .LtE,.ite [Y6,.cmp .LtE] [.pop,iF],.chk,.ite [.lit (.raw (.ref 585)),Y10,Y11,Y1,.attr 9,Y3,Y1,.attr 8,.bin .Sub,.idx,.call 3,.sto 18,Y5,Y18,(iI 0),.idx,.bin .Add,Y0,.sattr 8] [],Y7,.chk,.ite [.lit (.raw (.ref 585)),Y10,Y11,Y8,.call 3,.sto 18,Y5,Y18,(iI 0),.idx,.bin .Add,.lit (.raw (.builtin "min")),Y18,(iI 1),.idx,Y0,.attr 4,(iI 1),.bin .Sub,.call 2,.tup 2,.unp 2,Y0,.sattr 11,Y0,.sattr 12,Y12,.chk,.ite [iT,Y0,.sattr 13] [Y9,.chk,.ite [.lit (.raw (.builtin "min")),Y0,.attr 12,(iI 1),.bin .Add,Y0,.attr 4,(iI 1),.bin .Sub,.call 2,Y0,.sattr 12] [Y4,(iI 2),.idx,.chk,.ite [Y0,.mth 12,.call 1,.pop] []]]] []])) []
    [some (.ref ct),some (.ref ll.a),some (.ref la),some (.int fst),some (.tup [.int crow,.int ccol,.bool cw]),some (.int L.length),some (.int ((ll.f+ll.g.1.length:Nat):Int)),some (.bool true),some (.int off),some (.bool false),some (.ref ps),some (.ref pl),some (.bool false),none,none,none,none,none,none] H2
    (zan (zdG cols ct li sp fst crow fi ro co wa L ll u spl.length H)):=fun hx=>by
   walk_at "r"
   rw [show (off:Int)+1=((off+1:Nat):Int) from rfl]
   have hm:off+1≤(zac u).length∨off+1=(zac u).length+1:=by split at k2 <;> lia
   refine zas ((zpq (m:=off+1) lo2 lc2 hm (zbz (.i (.A (.l Va (.k 100)) (.A (.l Vb (.k 200)) (.A (.l Vc (.k 400)) (.A (.l Vd (.k 4000)) (.A (.l Ve (.k 500)) (.A (.l Vf (.k 900)) (.l Vg (.k 900)))))))) (.l Vb (.k 9000))) rfl hb)).tu rfl) rfl ?_
   refine zat ?_
   have hkp:∀ (cs:List zaa),∀ y m,H2 y=some m→y≠ll.c→zab H2 ll.c (.list (cs.map zaa.v)) y=some m:=fun cs y m z q=>zak z q
   rcases hx with hx | ⟨hx,hr⟩
   ·subst hx
    simp only [if_true] at k2
    rw [if_pos (by exact za6 (.i (.e Va (.a Vb Vc)) (.i (.e (.a Vb Vd) Ve) (.i (.e (.a Vd K1) Vc) (.l (.a Ve K1) Va)))) rfl eg2 hoff k2),zbE lc2]
    walk_at "r"
    refine zas ((zej hcols lc2 huw ⟨by exact zbz (.i (.A (.l Va (.k 100)) (.A (.l Vb (.k 200)) (.A (.l Vc (.k 400)) (.A (.l Vd (.k 4000)) (.A (.l Ve (.k 500)) (.A (.l Vf (.k 900)) (.l Vg (.k 900)))))))) (.l Va (.k 300))) rfl hb,by exact zbz (.i (.A (.l Va (.k 100)) (.A (.l Vb (.k 200)) (.A (.l Vc (.k 400)) (.A (.l Vd (.k 4000)) (.A (.l Ve (.k 500)) (.A (.l Vf (.k 900)) (.l Vg (.k 900)))))))) (.l Vb (.k 800))) rfl hb⟩).tu rfl) rfl ?_
    rintro _ H3 ⟨ps3,pl3,qs3,places3,rfl,C3⟩
    refine zdy (zbc rfl (zbc rfl ?_))
    simp only [List.set_cons_succ,List.set_cons_zero]
    have hp:=cpos (zaG (.i (.e Va (.a Vb Vc)) (.i (.e (.a Vd K1) Vc) (.t K0 Va))) rfl eg2 k2)
    have plen3:=C3.pk.len
    have pl0:plc places3 ((cut cols u).1.length+1) (zac (cut cols u).2).length off=((cut cols u).1.length,(zac (cut cols u).2).length - 1):=by
     have:=C3.pk.lst fun z=>by rw [z] at hp; simp [cut,zac] at hp
     rw [show places3.length - 1=off by exact zbO (.i (.e Va (.a Vb Vc)) (.i (.e (.a Vb Vd) Ve) (.i (.e (.a Vd K1) Vc) (.i (.e Vf Va) (.e (.s Vf K1) Ve))))) rfl eg2 hoff k2 plen3] at this
     unfold plc; rw [this]
    refine finish (off:=off) (fun y m z q=>C3.ext _ _ (C.ext _ _ z)) ⟨_,C3.ext _ _ lc2⟩ ⟨C3.hps,C3.hpl,C3.len,C3.hqs⟩ (sepOf C3 (C.ext _ _ hli) (C.ext _ _ os)) rle rfl (zb6 (.i (.A (.l Va (.k 100)) (.A (.l Vb (.k 200)) (.A (.l Vc (.k 400)) (.A (.l Vd (.k 4000)) (.A (.l Ve (.k 500)) (.A (.l Vf (.k 900)) (.l Vg (.k 900)))))))) (.i (.e Vh Vb) (.l Vh (.k 9000)))) rfl hb plen3) (zb6 (.i (.A (.l Va (.k 100)) (.A (.l Vb (.k 200)) (.A (.l Vc (.k 400)) (.A (.l Vd (.k 4000)) (.A (.l Ve (.k 500)) (.A (.l Vf (.k 900)) (.l Vg (.k 900)))))))) (.i (.O (.l (.a Vh K1) Vb) (.e (.a Vh K1) (.a Vb K1))) (.l Vh (.k 900)))) rfl hb hm) (pz C3.pk rfl fun z=>by rw [z]; rfl) ⟨fun _=>has,fun _=>rfl⟩ fun _=>⟨by rw [pl0],?_⟩
    rw [pl0]
    unfold zcp
    simp only [Bool.false_eq_true,if_false,if_true]
    by_cases q:(zac (cut cols u).2).length=cols
    ·rw [if_neg (by exact zad (.i (.e Va Vb) (.n (.t (.a (.m (.s Va K1) (.s Vb K1)) K1) Vb))) rfl q)]
     refine Prod.ext (by show min _ _=min _ _; exact zad (.i (.e Va Vb) (.e (.m (.s Va K1) (.s Vb K1)) (.m Va (.s Vb K1)))) rfl q) ?_
     show true=_
     rw [eq_comm,beq_iff_eq]; exact q
    ·rw [if_pos (by exact zad (.i (.A (.l K2 Va) (.l Va (.k 7))) (.i (.l Vb Va) (.i (.n (.e Vb Va)) (.t (.a (.m (.s Vb K1) (.s Va K1)) K1) Va)))) rfl hcols rle q)]
     refine Prod.ext (by show min _ _+1=min _ _; exact zad (.i (.l Va Vb) (.i (.t K0 Va) (.i (.n (.e Va Vb)) (.e (.a (.m (.s Va K1) (.s Vb K1)) K1) (.m Va (.s Vb K1)))))) rfl rle hp q) ?_
     show false=_
     rw [eq_comm,beq_eq_false_iff_ne]; exact q
   ·subst hx
    simp only [Bool.false_eq_true,if_false,Nat.add_zero] at k2
    rw [if_neg (by exact za6 (.i (.e Va (.a Vb Vc)) (.i (.e (.a Vb Vd) Ve) (.i (.e Vd Vc) (.n (.l (.a Ve K1) Va))))) rfl eg2 hoff k2)]
    have cb:zac u++[zar]=zac (u++[zar]):=by rw [zaW]; rfl
    rw [cb]
    have kb:=hkp (zac (u++[zar]))
    have lc3:zab H2 ll.c (.list ((zac (u++[zar])).map zaa.v)) ll.c=some (.list ((zac (u++[zar])).map zaa.v)):=zai
    have lo3:=kb _ _ lo2 (zam lo lc rfl)
    have o3:=kb _ _ o2 (zam o lc rfl)
    have li3:=kb _ _ (C.ext _ _ hli) n3.symm
    have sp3:=kb _ _ (C.ext _ _ os) n4.symm
    generalize zab H2 ll.c (.list ((zac (u++[zar])).map zaa.v))=H2' at *
    have lo3':=lo3
    have o3':=o3
    unfold llF at lo3'
    unfold ctF at o3'
    have huw':∀ c ∈ u++[zar],Sw c:=fun c hc=>by
     rcases List.mem_append.mp hc with hc | hc
     ·exact huw c hc
     ·rw [List.mem_singleton.mp hc]; exact .inl rfl
    have ecut:cut cols (u++[zar])=((cut cols u).1,(cut cols u).2++[zar]):=by
     rw [zcc]; unfold zaJ; rw [if_pos (by show _+1≤cols; exact zad (.i (.t Va Vb) (.l (.a Va K1) Vb)) rfl hr)]
    have crr:zac ((cut cols u).2++[zar])=zac (cut cols u).2++[zar]:=by rw [zaW]; rfl
    walk_at "r"
    refine zas ((zej hcols lc3 huw' ⟨by simp; exact zbz (.i (.A (.l Va (.k 100)) (.A (.l Vb (.k 200)) (.A (.l Vc (.k 400)) (.A (.l Vd (.k 4000)) (.A (.l Ve (.k 500)) (.A (.l Vf (.k 900)) (.l Vg (.k 900)))))))) (.l Va (.k 299))) rfl hb,by rw [← cb]; simp; exact zbz (.i (.A (.l Va (.k 100)) (.A (.l Vb (.k 200)) (.A (.l Vc (.k 400)) (.A (.l Vd (.k 4000)) (.A (.l Ve (.k 500)) (.A (.l Vf (.k 900)) (.l Vg (.k 900)))))))) (.l Vb (.k 799))) rfl hb⟩).tu rfl) rfl ?_
    rintro _ H3 ⟨ps3,pl3,qs3,places3,rfl,C3⟩
    refine zdy (zbc rfl (zbc rfl ?_))
    simp only [List.set_cons_succ,List.set_cons_zero]
    have plen3:=C3.pk.len
    rw [← cb,List.length_append,List.length_singleton] at plen3
    have A3:zbH H3 ps3 pl3 qs3 ((cut cols u).1.map (za9 cols)++[zac (cut cols u).2++[zar]]) places3:=by
     have h1:=C3.len
     have h2:=C3.hqs
     unfold zdt at h1 h2
     rw [ecut] at h1 h2
     dsimp only at h1 h2
     rw [crr] at h1 h2
     exact ⟨C3.hps,C3.hpl,h1,h2⟩
    have pl0:plc places3 ((cut cols u).1.length+1) (zac (cut cols u).2++[zar]).length off=((cut cols u).1.length,(zac (cut cols u).2).length):=by
     have:=C3.pk.lst (by simp)
     rw [ecut] at this
     dsimp only at this
     rw [crr,show places3.length - 1=off by exact zbO (.i (.e Va (.a Vb Vc)) (.i (.e (.a Vb Vd) Ve) (.i (.e Vd Vc) (.i (.e Vf (.a Va K1)) (.e (.s Vf K1) Ve))))) rfl eg2 hoff k2 plen3] at this
     unfold plc; rw [this]; simp
    have eb1:(cut cols u).1.length=(cut cols (u++[zar])).1.length:=by rw [ecut]
    refine finish (off:=off) (fun y m z q=>C3.ext _ _ (kb y m (C.ext _ _ z) q)) ⟨_,C3.ext _ _ lc3⟩ A3 (sepOf C3 li3 sp3) (by simp; exact zad (.i (.t Va Vb) (.l (.a Va K1) Vb)) rfl hr) ?_ (zb6 (.i (.A (.l Va (.k 100)) (.A (.l Vb (.k 200)) (.A (.l Vc (.k 400)) (.A (.l Vd (.k 4000)) (.A (.l Ve (.k 500)) (.A (.l Vf (.k 900)) (.l Vg (.k 900)))))))) (.i (.e Vh (.a Vb K1)) (.l Vh (.k 9000)))) rfl hb plen3) (zb6 (.i (.A (.l Va (.k 100)) (.A (.l Vb (.k 200)) (.A (.l Vc (.k 400)) (.A (.l Vd (.k 4000)) (.A (.l Ve (.k 500)) (.A (.l Vf (.k 900)) (.l Vg (.k 900)))))))) (.i (.O (.l (.a Vh K1) Vb) (.e (.a Vh K1) (.a Vb K1))) (.l Vh (.k 900)))) rfl hb hm) (pz C3.pk eb1 fun z=>by simp at z) ⟨fun _=>has,fun _=>rfl⟩ fun _=>⟨by rw [pl0],?_⟩
    ·rw [znA,List.length_append,List.length_singleton,List.append_assoc,show cols - (zac (cut cols u).2).length=(cols - ((zac (cut cols u).2).length+1))+1 by exact zad (.i (.t Va Vb) (.e (.s Vb Va) (.a (.s Vb (.a Va K1)) K1))) rfl hr,List.replicate_succ]
     rfl
    ·rw [pl0]
     unfold zcp
     simp only [Bool.false_eq_true,if_false]
     refine Prod.ext rfl ?_
     show false=_
     rw [eq_comm,beq_eq_false_iff_ne]; exact zad (.i (.t Va Vb) (.n (.e Va Vb))) rfl hr
  induction hcw:cw with
  | true =>
   rw [hcw] at kc
   refine r_f rfl ?_
   refine Run.lit (zbc rfl ?_)
   simp only [List.set_cons_succ,List.set_cons_zero]
   exact kc (.inl rfl)
  | false =>
   rw [hcw] at kc k2 finish
   simp only [Bool.false_eq_true,if_false,Nat.add_zero] at k2
   have eoff:off=(zac u).length:=by exact za6 (.i (.e Va (.a Vb Vc)) (.i (.e (.a Vb Vd) Ve) (.i (.e Vd Vc) (.e Ve Va)))) rfl eg2 hoff k2
   refine r_t rfl ?_
   have last:∃ q,qs[qs.length - 1]?=some q∧H2 q=some (.list ((zac (cut cols u).2).map zaa.v)):=by
    have hl2:=A.len
    rw [List.length_append,List.length_map,List.length_singleton] at hl2
    obtain ⟨q,hq⟩:∃ q,qs[qs.length - 1]?=some q:=⟨_,List.getElem?_eq_getElem (zad (.i (.e Va (.a Vb K1)) (.t (.s Va K1) Va)) rfl hl2)⟩
    exact ⟨q,hq,A.hqs _ _ _ hq (by rw [List.getElem?_append_right (by simp; exact zad (.i (.e Va (.a Vb K1)) (.l Vb (.s Va K1))) rfl hl2)]; simp [hl2])⟩
   obtain ⟨q,hq,hql⟩:=last
   have qlt:=(List.getElem?_eq_some_iff.mp hq).1
   walk_at "c"
   simp only [List.length_map]
   by_cases q0:0 < (zac u).length
   ·refine r_t (decide_eq_true (zag (.i (.t K0 Va) (.T K0 (.c Va))) rfl q0)) ?_
    rw [List.cons_append,List.cons_append,List.nil_append]
    refine Run.loc rfl (zdv (Run.chk (r_t (by rw [beq_iff_eq]; exact zad (.i (.e Va Vb) (.E (.c Vb) (.c Va))) rfl eoff) ?_)))
    walk_at "c"
    refine zaB A.hps (by decide) (x:=.ref q) (by
     unfold at?
     rw [if_pos (by exact lin (.T (.g K1) K0) [] rfl),if_pos (by simp; exact zag (.i (.t (.s Va K1) Va) (.L K1 (.c Va))) rfl qlt),show ((-1:Int)+((qs.map V.ref).length:Nat)).toNat=qs.length - 1 by simp; exact zag (.e (.t (.a (.g K1) (.c Va))) (.s Va K1)) rfl,List.getElem?_map,hq]; rfl) ?_
    walk_at "r1"
    simp only [List.length_map]
    refine Run.loc rfl ?_
    walk_at "r1"
    refine zdv (Run.chk ?_)
    by_cases qc:(zac (cut cols u).2).length=cols
    ·have eb:(((zac (cut cols u).2).length:Int) == (cols:Int))=true:=by rw [beq_iff_eq]; exact zad (.i (.e Va Vb) (.E (.c Va) (.c Vb))) rfl qc
     rw [eb]
     refine zbc rfl ?_
     simp only [List.set_cons_succ,List.set_cons_zero]
     refine Run.loc rfl (Run.chk (r_t rfl ?_))
     rw [List.cons_append]
     refine Run.loc rfl ?_
     rw [List.cons_append,List.cons_append,List.nil_append]
     refine Run.chk (Run.notb (r_f rfl ?_))
     rw [List.nil_append]
     have pl0:plc places ((cut cols u).1.length+1) (zac (cut cols u).2).length off=((cut cols u).1.length,(zac (cut cols u).2).length):=by
      unfold plc
      rw [List.getElem?_eq_none (by exact zaj (.i (.e Va Vb) (.i (.e Vc Vb) (.l Va Vc))) rfl plen eoff)]
      rfl
     refine finish (off:=off) (fun y m z _=>C.ext _ _ z) ⟨_,lc2⟩ A (sepOf C hli os) rle rfl (zb6 (.i (.A (.l Va (.k 100)) (.A (.l Vb (.k 200)) (.A (.l Vc (.k 400)) (.A (.l Vd (.k 4000)) (.A (.l Ve (.k 500)) (.A (.l Vf (.k 900)) (.l Vg (.k 900)))))))) (.i (.e Vh Vb) (.l Vh (.k 9000)))) rfl hb plen) (zb6 (.i (.A (.l Va (.k 100)) (.A (.l Vb (.k 200)) (.A (.l Vc (.k 400)) (.A (.l Vd (.k 4000)) (.A (.l Ve (.k 500)) (.A (.l Vf (.k 900)) (.l Vg (.k 900)))))))) (.i (.e Vh Vb) (.l Vh (.k 900)))) rfl hb eoff) (pz C.pk rfl fun z=>by rw [z]; rfl) ⟨fun _=>has,fun _=>rfl⟩ fun _=>⟨by rw [pl0],?_⟩
     rw [pl0]
     unfold zcp
     simp only [if_true]
     refine Prod.ext rfl ?_
     show true=_
     rw [eq_comm,beq_iff_eq]; exact qc
    ·have eb:(((zac (cut cols u).2).length:Int) == (cols:Int))=false:=by rw [beq_eq_false_iff_ne]; exact zad (.i (.n (.e Va Vb)) (.n (.E (.c Va) (.c Vb)))) rfl qc
     rw [eb]
     refine zbc rfl ?_
     simp only [List.set_cons_succ,List.set_cons_zero]
     exact kc (.inr ⟨rfl,by exact zad (.i (.l Va Vb) (.i (.n (.e Va Vb)) (.t Va Vb))) rfl rle qc⟩)
   ·refine r_f (decide_eq_false (zag (.i (.n (.t K0 Va)) (.n (.T K0 (.c Va)))) rfl q0)) ?_
    rw [List.cons_append,List.cons_append,List.nil_append]
    refine Run.pop (Run.lit (Run.chk (r_f rfl ?_)))
    rw [List.cons_append,List.nil_append]
    refine Run.lit (zbc rfl ?_)
    simp only [List.set_cons_succ,List.set_cons_zero]
    have hu0:u=[]:=by
     induction u using List.casesOn with
     | nil=>rfl
     | cons y t=>have:=(List.getElem?_eq_some_iff.mp (zdf (c:=y) (t:=t))).1; lia
    exact kc (.inr ⟨rfl,by rw [hu0]; simp [cut,zac]; exact zag (.i (.A (.l K2 Va) (.l Va (.k 7))) (.t K0 Va)) rfl hcols⟩)
 ·have nothas:∀ {ps':Nat},Run W 6 (.sto 7::Y7::.chk::.ite [Y1,.mth 11,Y4,(iI 0),.idx,Y1,.attr 8,.bin .Sub,Y4,(iI 1),.idx,.call 3] [(iI 0),iF,.tup 2]::.unp 2::.sto 8::.sto 9::.lit (.raw (.ref 578))::Y1::.attr 0::Y0::.attr 4::.call 2::.unp 2::.sto 10::.sto 11::Y7::.chk::.ite [Y4,(iI 2),.idx,.chk,.notb,.ite [(iI 0),.lit (.raw (.builtin "len")),Y1,.attr 0,.call 1,.cmpk .Lt,.ite [Y8,.cmp .Eq] [.pop,iF],.chk,.ite [.lit (.raw (.builtin "len")),Y10,(iI 1),.neg,.idx,.call 1,Y0,.attr 4,.cmp .Eq,.chk] [iF]] [iF]] [iF]::.sto 12::Y7::.chk::.ite [Y12,.chk,.notb] [iF]::.ite [Y1,.mth 9,Y8,(iI 1),.bin .Add,.call 2,.pop,.lit (.raw (.ref 578)),Y1,.attr 0,Y0,.attr 4,.call 2,.unp 2,.sto 10,.sto 11] []::(Y1::.attr 9::.fr .enum 1 [.unp 2,.sto 13,.sto 14] [Y0,.attr 14,.mth 41,Y5,Y14,Y1,.mth 10,Y13,.call 2,Y10,Y11,.tup 5,.call 2,.pop]::Y10::.fr .enum 1 [.unp 2,.sto 15,.sto 16] [Y15,(iI 1),.bin .Add,.lit (.raw (.builtin "len")),Y10,.call 1,.cmp .Lt,.chk,.ite [iT] [Y1,.attr 10,.chk,.notb],.sto 17,Y0,.attr 5,.mth 41,.lit (.raw (.ref 592)),Y16,Y0,.attr 4,Y17,.call 3,.call 2,.pop] ::
    [Y1,.attr 8,Y3,.cmpk .LtE,.ite [Y6,.cmp .LtE] [.pop,iF],.chk,.ite [.lit (.raw (.ref 585)),Y10,Y11,Y1,.attr 9,Y3,Y1,.attr 8,.bin .Sub,.idx,.call 3,.sto 18,Y5,Y18,(iI 0),.idx,.bin .Add,Y0,.sattr 8] [],Y7,.chk,.ite [.lit (.raw (.ref 585)),Y10,Y11,Y8,.call 3,.sto 18,Y5,Y18,(iI 0),.idx,.bin .Add,.lit (.raw (.builtin "min")),Y18,(iI 1),.idx,Y0,.attr 4,(iI 1),.bin .Sub,.call 2,.tup 2,.unp 2,Y0,.sattr 11,Y0,.sattr 12,Y12,.chk,.ite [iT,Y0,.sattr 13] [Y9,.chk,.ite [.lit (.raw (.builtin "min")),Y0,.attr 12,(iI 1),.bin .Add,Y0,.attr 4,(iI 1),.bin .Sub,.call 2,Y0,.sattr 12] [Y4,(iI 2),.idx,.chk,.ite [Y0,.mth 12,.call 1,.pop] []]]] []])) [.bool false]
    [some (.ref ct),some (.ref ll.a),some (.ref la),some (.int fst),some (.tup [.int crow,.int ccol,.bool cw]),some (.int L.length),some (.int ((ll.f+ll.g.1.length:Nat):Int)),none,none,none,none,none,none,none,none,none,none,none,none] H
    (zan (zdG cols ct li sp fst crow fi ro co wa L ll u spl.length H)):=fun {_}=>by
   walk_at "r"
   refine zas ((zej hcols lc huw ⟨by exact zbz (.i (.A (.l Va (.k 100)) (.A (.l Vb (.k 200)) (.A (.l Vc (.k 400)) (.A (.l Vd (.k 4000)) (.A (.l Ve (.k 500)) (.A (.l Vf (.k 900)) (.l Vg (.k 900)))))))) (.l Va (.k 300))) rfl hb,by exact zbz (.i (.A (.l Va (.k 100)) (.A (.l Vb (.k 200)) (.A (.l Vc (.k 400)) (.A (.l Vd (.k 4000)) (.A (.l Ve (.k 500)) (.A (.l Vf (.k 900)) (.l Vg (.k 900)))))))) (.l Vb (.k 800))) rfl hb⟩).tu rfl) rfl ?_
   rintro _ H2 ⟨ps,pl,qs,places,rfl,C⟩
   refine zdy (zbc rfl (zbc rfl ?_))
   simp only [List.set_cons_succ,List.set_cons_zero]
   refine Run.loc rfl (Run.chk (r_f rfl ?_))
   rw [List.cons_append,List.nil_append]
   refine Run.lit (zbc rfl ?_)
   simp only [List.set_cons_succ,List.set_cons_zero]
   refine Run.loc rfl (Run.chk (r_f rfl ?_))
   rw [List.cons_append,List.nil_append]
   refine Run.lit (r_f rfl ?_)
   rw [List.nil_append]
   have plen:places.length=(zac u).length:=C.pk.len
   exact finish (off:=0) (fun y m z _=>C.ext _ _ z) ⟨_,C.ext _ _ lc⟩ ⟨C.hps,C.hpl,C.len,C.hqs⟩ (sepOf C hli os) rle rfl (zb6 (.i (.A (.l Va (.k 100)) (.A (.l Vb (.k 200)) (.A (.l Vc (.k 400)) (.A (.l Vd (.k 4000)) (.A (.l Ve (.k 500)) (.A (.l Vf (.k 900)) (.l Vg (.k 900)))))))) (.i (.e Vh Vb) (.l Vh (.k 9000)))) rfl hb plen) (lin (.l K0 (.k 900)) [] rfl) (pz C.pk rfl fun z=>by rw [z]; rfl) ⟨fun z=>Bool.noConfusion z,fun z=>absurd z has⟩ fun z=>Bool.noConfusion z
  by_cases q1:ll.f≤crow
  ·refine r_t (decide_eq_true (zad (.i (.l Va Vb) (.L (.c Va) (.c Vb))) rfl q1)) ?_
   rw [List.cons_append,List.cons_append,List.nil_append]
   refine Run.loc rfl (r_le ?_)
   rw [decide_eq_false (show ¬ (crow:Int)≤((ll.f+ll.g.1.length:Nat):Int) by exact zaj (.i (.n (.A (.l Va Vb) (.l Vb (.a Va Vc)))) (.i (.l Va Vb) (.n (.L (.c Vb) (.c (.a Va Vc)))))) rfl has q1)]
   exact nothas (ps':=0)
  ·refine r_f (decide_eq_false (zad (.i (.n (.l Va Vb)) (.n (.L (.c Va) (.c Vb)))) rfl q1)) ?_
   rw [List.cons_append,List.cons_append,List.nil_append]
   exact Run.pop (Run.lit (nothas (ps':=0)))
end
noncomputable def Gp.text (g:Gp):List zaa:=g.ps.flatten
noncomputable def zaQ (G:List Gp) (i:Nat):Nat:=((G.take i).flatMap zap).length
theorem zbW {α:Type} {l:List α} {i:Nat} {x:α} (h:l[i]?=some x):l.take (i+1)=l.take i++[x]:=by
 rw [List.take_add_one,h]; rfl
theorem zcY {G:List Gp} {i:Nat} {g:Gp} (h:G[i]?=some g):zaQ G (i+1)=zaQ G i+(g.1.length+1):=by
 unfold zaQ
 rw [zbW h,List.flatMap_append,List.length_append]
 simp [zap]
theorem zd7 {G:List Gp} {i j:Nat} (h:i≤j):zaQ G i≤zaQ G j:=by
 induction j with
 | zero =>
  have:i=0:=by exact zag (.i (.l Va K0) (.e Va K0)) rfl h
  subst this; exact Nat.le_refl _
 | succ j ih =>
  by_cases q:i=j+1
  ·subst q; exact Nat.le_refl _
  ·refine Nat.le_trans (ih (zad (.i (.l Va (.a Vb K1)) (.i (.n (.e Va (.a Vb K1))) (.l Va Vb))) rfl h q)) ?_
   induction hg:G[j]? with
   | none =>
    have:=List.getElem?_eq_none_iff.mp hg
    unfold zaQ
    rw [List.take_of_length_le (by exact zad (.i (.l Va Vb) (.l Va Vb)) rfl this),List.take_of_length_le (by exact zad (.i (.l Va Vb) (.l Va (.a Vb K1))) rfl this)]
    exact Nat.le_refl _
   | some g=>rw [zcY hg]; exact zad (.l Va (.a Va (.a Vb K1))) rfl
structure zdD (G:List Gp) (gc:Nat) (g:Gp) (crow ccol:Nat) (cw:Bool):Prop where
 at_:G[gc]?=some g
 row:crow=zaQ G gc+g.1.length
 col:ccol+(if cw then 1 else 0)=(zac g.2).length
theorem zdD.only {G:List Gp} {gc:Nat} {g g':Gp} {crow ccol:Nat} {cw:Bool} (h:zdD G gc g crow ccol cw) {i:Nat} (hi:G[i]?=some g') (q:zaQ G i≤crow∧crow≤zaQ G i+g'.1.length):i=gc:=by
 have h1:=zcY hi
 have h2:=zcY h.at_
 have hr:=h.row
 by_cases a:i < gc
 ·have:=zd7 (G:=G) (show i+1≤gc by exact zad (.i (.t Va Vb) (.l (.a Va K1) Vb)) rfl a); lia
 ·by_cases b:gc < i
  ·have:=zd7 (G:=G) (show gc+1≤i by exact zad (.i (.t Va Vb) (.l (.a Va K1) Vb)) rfl b); lia
  ·exact zad (.i (.n (.t Va Vb)) (.i (.n (.t Vb Va)) (.e Va Vb))) rfl a b
noncomputable def zbd (cols:Nat) (G:List Gp) (i:Nat):List (List zaa × Bool):=(G.take i).flatMap fun g=>zbX cols (cut cols g.text)
theorem zfj {cols:Nat} {G:List Gp} {i:Nat} {g:Gp} (h:G[i]?=some g):zbd cols G (i+1)=zbd cols G i++zbX cols (cut cols g.text):=by
 unfold zbd
 rw [zbW h,List.flatMap_append]; simp
structure CutD (cols:Nat) (H H':Hp) (ct li sp:Nat) (L:List Ln) (V':List (List zaa × Bool)) (fi ro co:Nat) (wa:Bool):Prop where
 o:H' ct=some (.inst 644 (ctF cols li fi ro co wa sp))
 hli:H' li=some (.list (zah L))
 hsp:∃ spl,H' sp=some (.list spl)∧spl.length≤3000
 view:L.map (fun l=>(l.cells,l.wr))=V'
 at_:∀ l ∈ L,zaD H' l
 fr:∀ l ∈ L,H l.a=none∧H l.c=none
 sep:∀ l ∈ L,l.c≠li∧l.c≠sp
 nda:(L.map (·.a)).Nodup
 ndc:(L.map (·.c)).Nodup
 f0:H li=none∧H sp=none
 ne:li≠sp
inductive PCt (cols:Nat) (H:Hp) (ct fst gc:Nat) (gg:Gp) (G:List Gp) (x:V) (H':Hp):Prop
 | mk (e:x=.none) (li sp:Nat) (L:List Ln) (fi ro co:Nat) (wa:Bool) (d:CutD cols H H' ct li sp L (zbd cols G G.length) fi ro co wa) (h0:fst=0→fi=0) (h1:ro=(zbd cols G gc).length+(cut cols gg.text).1.length)
  (h2:co=min (zac (cut cols gg.text).2).length (cols - 1)) (h3:wa=((zac (cut cols gg.text).2).length == cols)) (kp:∀ y m,y≠ct→H y=some m→H' y=some m)
inductive JCt (la cols ct fst crow ccol:Nat) (cw:Bool) (gg:Gp) (gc:Nat) (G:List Gp) (li sp fo:Nat) (lls:List LL) (H1 H2:Hp) (i:Nat) (ρ:Ro) (H':Hp):Prop
 | mk (x5:Option V) (L:List Ln) (fi ro co:Nat) (wa:Bool) (spl:List V) (hρ:ρ=[some (.ref ct),some (.ref la),some (.int cols),some (.int fst),some (.tup [.int crow,.int ccol,.bool cw]),x5]) (o:H' ct=some (.inst 644 (ctF cols li fi ro co wa sp))) (hli:H' li=some (.list (zah L)))
  (hsp:H' sp=some (.list spl)) (hn:spl.length≤zaQ G i) (hv:L.map (fun l=>(l.cells,l.wr))=zbd cols G i) (hL:∀ l ∈ L,zaD H' l∧H2 l.a=none∧H2 l.c=none∧l.c≠li∧l.c≠sp) (nda:(L.map (·.a)).Nodup) (ndc:(L.map (·.c)).Nodup) (hfo:H' fo=some (.list (zbP lls)))
  (hll:∀ j ll,i≤j→lls[j]?=some ll→zcN H' ll) (k1:∀ y m,H1 y=some m→y≠ct→y≠li→y≠sp→H' y=some m) (k2:∀ y m,H2 y=some m→y≠ct→y≠li→y≠sp→(∀ ll ∈ lls,y≠ll.c)→H' y=some m) (hc:∀ ll ∈ lls,∃ m,H' ll.c=some m)
  (h0:fst=0→fi=0) (h1:i≤gc→wa=false) (h2:gc < i→ro=(zbd cols G gc).length+(cut cols gg.text).1.length∧co=min (zac (cut cols gg.text).2).length (cols - 1)∧wa=((zac (cut cols gg.text).2).length == cols))
section
variable {W:Wx} {H:Hp}
theorem zo9 {la cols c0 ct fst gc crow ccol:Nat} {cw:Bool} {gg:Gp} {ls:List Ln} {G:List Gp} (hc0:2≤c0∧c0≤7) (hcols:2≤cols∧cols≤7) (hv:ls.map (fun l=>(l.cells,l.wr))=(G.flatMap zap).map (fun q=>zaz c0 (zac q.1,q.2))) (ok:zdc c0 (G.flatMap zap)) (hn:ls.length≤100) (htx:∀ g ∈ G,g.text.length≤100) (hnew:∀ i,(zbd cols G i).length≤400)
  (hcur:zdD G gc gg crow ccol cw) (e:H la=some (.list (zah ls))) (hL:∀ l ∈ ls,zaD H l) (oct:H ct=some (.inst 644 [])) :
  zae W 8 (.ref 606) [.ref ct,.ref la,.int cols,.int fst,.tup [.int crow,.int ccol,.bool cw]] H (PCt cols H ct fst gc gg G):=by
 refine zlZ _ _ _ _ _ ?_
 unfold zgY
 walk_at "r"
 refine zaq oct rfl rfl ?_
 refine zc1 fun li fli=>?_
 have l0:li≠ct:=fun z=>by rw [z,zai] at fli; injection fli
 have l1:H li=none:=by rw [zao l0] at fli; exact fli
 walk_at "r"
 refine zaq (zak zai l0.symm) rfl rfl ?_
 walk_at "r"
 refine zaq zai rfl rfl ?_
 walk_at "r"
 refine zaq zai rfl rfl ?_
 walk_at "r"
 refine zaq zai rfl rfl ?_
 walk_at "r"
 refine zaq zai rfl rfl ?_
 rw [zaC,zaC,zaC,zaC]
 refine zc1 fun sp fsp=>?_
 have s0:sp≠ct:=fun z=>by rw [z,zai] at fsp; injection fsp
 have s1:sp≠li:=fun z=>by rw [z,zao l0,zai] at fsp; injection fsp
 have s2:H sp=none:=by rw [zao s0,zao s1,zao s0] at fsp; exact fsp
 walk_at "r"
 refine zaq (zak zai s0.symm) rfl rfl ?_
 generalize hH1:zab (zab (zab (zab (zab H ct _) li _) ct _) sp _) ct _=H1
 have b1:H1 ct=some (.inst 644 (ctF cols li 0 0 0 false sp)):=by rw [← hH1]; exact zai
 have b2:H1 li=some (.list []):=by rw [← hH1]; exact zak (zak (zak zai l0) s1.symm) l0
 have b3:H1 sp=some (.list []):=by rw [← hH1]; exact zak zai s0
 have kp1:∀ y m,y≠ct→H y=some m→H1 y=some m:=fun y m q z=>by
  rw [← hH1]; exact zak (zak (zak (zak (zak z q) (zal z l1)) q) (zal z s2)) q
 have bk1:∀ y,H1 y=none→H y=none:=fun y z=>by
  induction h:H y with
  | none=>rfl
  | some m =>
   by_cases q:y=ct
   ·rw [q,b1] at z; injection z
   ·rw [kp1 _ _ q h] at z; injection z
 clear hH1
 have e1:=kp1 _ _ (zam e oct rfl) e
 have hL1:∀ l ∈ ls,zaD H1 l:=fun l hl=>⟨kp1 _ _ (zam (hL l hl).o oct rfl) (hL l hl).o,kp1 _ _ (zam (hL l hl).cs oct rfl) (hL l hl).cs⟩
 walk_at "r"
 refine zav ((zpu hc0 hv ok (zag (.i (.l Va (.k 100)) (.l Va (.k 400))) rfl hn) e1 hL1).tu rfl) rfl ?_
 rintro _ H2 ⟨fo,lls,rfl,ffo,hfo,LL2,E2⟩
 have lenls:ls.length=(G.flatMap zap).length:=by have:=congrArg List.length hv; simpa using this
 have llG:lls.length=G.length:=by rw [← LL2.g]; simp
 have lG:G.length≤100:=by have:=zia G; exact zaj (.i (.l Va (.k 100)) (.i (.e Va Vb) (.i (.l Vc Vb) (.l Vc (.k 100))))) rfl hn lenls this
 let Jn:=JCt la cols ct fst crow ccol cw gg gc G li sp fo lls H1 H2
 have sepLL:∀ ll ∈ lls,ll.b≠li∧ll.b≠sp∧ll.c≠li∧ll.c≠sp:=fun ll h=>by
  obtain ⟨_,f2,f3⟩:=LL2.fr ll h
  exact ⟨(zal b2 f2).symm,(zal b3 f2).symm,(zal b2 f3).symm,(zal b3 f3).symm⟩
 refine Run.fr (l:=zbP lls) (args:=[.ref fo]) (J:=Jn) (Z:=fun _ _=>False) rfl rfl ⟨none,[],0,0,0,false,[],rfl,E2 _ _ b1,E2 _ _ b2,E2 _ _ b3,Nat.zero_le _,rfl,by simp,by simp,by simp,hfo,fun j ll _ h=>LL2.at_ ll (List.mem_of_getElem? h),fun y m z _ _ _=>E2 _ _ z,fun y m z _ _ _ _=>z,fun ll h=>⟨_,(LL2.at_ ll h).c⟩,fun _=>rfl,fun _=>rfl,fun z=>absurd z (Nat.not_lt_zero _)⟩ (fun i ρ H' _ hj=>?_) ?_ ?_ (fun _ _ z=>z.elim)
 ·obtain ⟨_,_,_,_,_,_,_,_,_,_,_,_,_,_,_,_,h,_⟩:=hj
  exact h
 ·rintro i x ρ H3 hx ⟨x5,L,fi,ro,co,wa,spl,rfl,o3,li3,sp3,spn,hview,hLn,hda,hdc,fo3,hll,kp3,kp4,hcs,hfi,hwa,hdone⟩
  obtain ⟨ll,hlli⟩:∃ ll,lls[i]?=some ll:=by
   have:=(List.getElem?_eq_some_iff.mp hx).1
   exact ⟨_,List.getElem?_eq_getElem (by simpa [zbP] using this)⟩
  have hgi:G[i]?=some ll.g:=by rw [← LL2.g,List.getElem?_map,hlli]; rfl
  have:x=.ref ll.a:=by unfold zbP at hx; rw [List.getElem?_map,hlli] at hx; exact (Option.some.inj hx).symm
  subst this
  have llm:=List.mem_of_getElem? hlli
  have hA:=hll i ll (Nat.le_refl _) hlli
  obtain ⟨q1,q2,q3,q4⟩:=sepLL ll llm
  have hf:ll.f=zaQ G i:=LL2.f i ll hlli
  have gm:ll.g ∈ G:=List.mem_of_getElem? hgi
  have tx:=htx _ gm
  have off1:=zcY hgi
  have offn:zaQ G (i+1)≤100:=by
   have:zaQ G (i+1)≤zaQ G G.length:=zd7 (by have:=(List.getElem?_eq_some_iff.mp hgi).1; exact zad (.i (.t Va Vb) (.l (.a Va K1) Vb)) rfl this)
   have e3:zaQ G G.length=ls.length:=by unfold zaQ; rw [List.take_length,lenls]
   exact zaj (.i (.l Va (.k 100)) (.i (.l Vb Vc) (.i (.e Vc Va) (.l Vb (.k 100))))) rfl hn this e3
  have hsg:∀ c ∈ ll.g.ps.flatten,Sg c:=fun c hc=>by
   obtain ⟨p,hp,hc⟩:=List.mem_flatten.mp hc
   have:∃ w,(p,w) ∈ G.flatMap zap:=by
    unfold Gp.ps at hp
    rcases List.mem_append.mp hp with hp | hp
    ·exact ⟨true,List.mem_flatMap.mpr ⟨ll.g,gm,by unfold zap; exact List.mem_append_left _ (List.mem_map.mpr ⟨p,hp,rfl⟩)⟩⟩
    ·exact ⟨false,List.mem_flatMap.mpr ⟨ll.g,gm,by unfold zap; exact List.mem_append_right _ (by rw [List.mem_singleton.mp hp]; simp)⟩⟩
   obtain ⟨w,hw⟩:=this
   exact ok.sg _ hw c hc
  have clen:∀ (t:List zaa),(∀ c ∈ t,Sg c)→(zac t).length≤2 * t.length:=by
   intro t ht
   induction t with
   | nil=>simp [zac]
   | cons c t ih =>
    have h1:=ih fun y hy=>ht y (by simp [hy])
    have h2:=zbU (ht c (by simp))
    have h3:=(ht c (by simp)).1
    unfold zac at h1 ⊢
    rw [List.flatMap_cons,List.length_append,List.length_cons,h2]
    rcases h3 with h3 | h3 <;> lia
  have Llen:L.length≤400:=by have:=congrArg List.length hview; rw [List.length_map] at this; rw [this]; exact hnew i
  have cu:=clen _ hsg
  have crow9:crow≤900:=by
   have h1:=hcur.row
   have h2:=zcY hcur.at_
   have:zaQ G (gc+1)≤zaQ G G.length:=zd7 (by have:=(List.getElem?_eq_some_iff.mp hcur.at_).1; exact zad (.i (.t Va Vb) (.l (.a Va K1) Vb)) rfl this)
   have e3:zaQ G G.length=ls.length:=by unfold zaQ; rw [List.take_length,lenls]
   exact zbO (.i (.l Va (.k 100)) (.i (.e Vb (.a Vc Vd)) (.i (.e Ve (.a Vc (.a Vd K1))) (.i (.l Ve Vf) (.i (.e Vf Va) (.l Vb (.k 900))))))) rfl hn h1 h2 this e3
  have o3':=o3
  unfold ctF at o3'
  walk_at "c"
  refine zft ((zpb (W:=W) hcols o3 li3 sp3 hA hsg q1 q2 q3 q4 (LL2.ne ll llm).2.2 s1.symm ⟨tx,by unfold Gp.text at tx; lia,by exact zaj (.i (.e Va (.a Vb (.a Vc K1))) (.i (.l Va (.k 100)) (.l Vc (.k 400)))) rfl off1 offn,by exact zaG (.i (.l Va Vb) (.i (.e Vc (.a Vb (.a Vd K1))) (.i (.l Vc (.k 100)) (.l Va (.k 4000))))) rfl spn off1 offn,by exact zag (.i (.l Va (.k 400)) (.l Va (.k 500))) rfl Llen,by exact zaG (.i (.e Va Vb) (.i (.e Vc (.a Vb (.a Vd K1))) (.i (.l Vc (.k 100)) (.l Va (.k 900))))) rfl hf off1 offn,crow9⟩ (fun q=>by
   rw [hf] at q ⊢
   have:=hcur.only hgi q
   subst this
   have:gg=ll.g:=Option.some.inj (hcur.at_.symm.trans hgi)
   subst this
   exact ⟨hcur.row,hcur.col,hwa (Nat.le_refl _)⟩)).tu rfl) rfl ?_
  rintro _ H4 ⟨rfl,new,fi',ro',co',wa',P,hf1,hf2,hc1,hc2⟩
  walk_at "r"
  rw [hf] at hf1 hf2 hc1 hc2
  have Lne:∀ l ∈ L,∀ ll' ∈ lls,l.c≠ll'.c:=fun l hl ll' hl'=>(zal (LL2.at_ ll' hl').c (hLn l hl).2.2.1).symm
  have bk3:∀ y,H3 y=none→H2 y=none:=fun y z=>by
   induction h:H2 y with
   | none=>rfl
   | some m =>
    by_cases q1:y=ct
    ·rw [q1,o3] at z; injection z
    ·by_cases q2:y=li
     ·rw [q2,li3] at z; injection z
     ·by_cases q3:y=sp
      ·rw [q3,sp3] at z; injection z
      ·by_cases q4:∃ ll' ∈ lls,y=ll'.c
       ·obtain ⟨ll',h1,h2⟩:=q4
        obtain ⟨m',hm'⟩:=hcs ll' h1
        rw [h2,hm'] at z; injection z
       ·rw [kp4 _ _ h q1 q2 q3 fun ll' h1 h2=>q4 ⟨ll',h1,h2⟩] at z; injection z
  have oldL:∀ l ∈ L,zaD H4 l:=fun l hl=>by
   obtain ⟨h1,h2,h3,h4,h5⟩:=hLn l hl
   exact ⟨P.kp _ _ h1.o (zam h1.o o3 rfl) (zam h1.o li3 rfl) (zam h1.o sp3 rfl) (zam h1.o hA.c rfl),P.kp _ _ h1.cs (zam h1.cs o3 rfl) h4 h5 (Lne l hl ll llm)⟩
  obtain ⟨spl',hs1,hs2⟩:=P.hsp
  refine Run.nil ⟨_,L++new,fi',ro',co',wa',spl',rfl,P.o,P.hli,hs1,by exact za6 (.i (.l Va Vb) (.i (.e Vc (.a Vb (.a Vd K1))) (.i (.l Ve (.a Va (.a Vd K1))) (.l Ve Vc)))) rfl spn off1 hs2,by rw [List.map_append,hview,P.view,zfj hgi]; rfl,fun l hl=>?_,?_,?_,P.kp _ _ fo3 (zam fo3 o3 rfl) (zal b2 ffo).symm (zal b3 ffo).symm (LL2.ne ll llm).2.1.symm,fun j ll' hj hj'=>?_,fun y m z r1 r2 r3=>?_,fun y m z r1 r2 r3 r4=>P.kp _ _ (kp4 _ _ z r1 r2 r3 r4) r1 r2 r3 (r4 ll llm),fun ll' h=>?_,fun z=>?_,fun z=>?_,fun z=>?_⟩
  ·rcases List.mem_append.mp hl with hl | hl
   ·exact ⟨oldL l hl,(hLn l hl).2⟩
   ·obtain ⟨g1,g2⟩:=P.fr l hl
    exact ⟨P.at_ l hl,bk3 _ g1,bk3 _ g2,(zal li3 g2).symm,(zal sp3 g2).symm⟩
  ·rw [List.map_append,List.nodup_append]
   refine ⟨hda,P.nda,fun y hy z hz=>?_⟩
   obtain ⟨l,hl,rfl⟩:=List.mem_map.mp hy
   obtain ⟨l',hl',rfl⟩:=List.mem_map.mp hz
   exact zal (hLn l hl).1.o (P.fr l' hl').1
  ·rw [List.map_append,List.nodup_append]
   refine ⟨hdc,P.ndc,fun y hy z hz=>?_⟩
   obtain ⟨l,hl,rfl⟩:=List.mem_map.mp hy
   obtain ⟨l',hl',rfl⟩:=List.mem_map.mp hz
   exact zal (hLn l hl).1.cs (P.fr l' hl').2
  ·have h1:=hll j ll' (zad (.i (.l (.a Va K1) Vb) (.l Va Vb)) rfl hj) hj'
   have hm':=List.mem_of_getElem? hj'
   obtain ⟨r1,r2,r3,r4⟩:=sepLL ll' hm'
   have cc:ll'.c≠ll.c:=zcW (f:=fun l:LL=>l.c) LL2.ndc hj' hlli (zad (.i (.l (.a Va K1) Vb) (.n (.e Vb Va))) rfl hj)
   exact ⟨P.kp _ _ h1.o (zam h1.o o3 rfl) (zam h1.o li3 rfl) (zam h1.o sp3 rfl) (zam h1.o hA.c rfl),P.kp _ _ h1.b (zam h1.b o3 rfl) r1 r2 (LL2.nbc ll' hm' ll llm),P.kp _ _ h1.c (zam h1.c o3 rfl) r3 r4 cc⟩
  ·exact P.kp _ _ (kp3 _ _ z r1 r2 r3) r1 r2 r3 (zal z (LL2.fr ll llm).2.2)
  ·by_cases q:ll'.c=ll.c
   ·rw [q]; exact P.hc
   ·obtain ⟨m,hm⟩:=hcs ll' h
    obtain ⟨_,_,r3,r4⟩:=sepLL ll' h
    exact ⟨m,P.kp _ _ hm (zam (LL2.at_ ll' h).c (E2 _ _ b1) rfl) r3 r4 q⟩
  ·by_cases q:zaQ G i≤fst∧fst≤zaQ G i+ll.g.1.length
   ·obtain ⟨k,e3,e4⟩:=hf1 q
    have f0:zaQ G i=0:=by exact zaj (.i (.e Va K0) (.i (.A (.l Vb Va) (.l Va (.a Vb Vc))) (.e Vb K0))) rfl z q
    have i0:i=0:=by
     cases i with
     | zero=>rfl
     | succ i =>
      obtain ⟨g',hg'⟩:∃ g',G[i]?=some g':=⟨_,List.getElem?_eq_getElem (by have:=(List.getElem?_eq_some_iff.mp hgi).1; exact zad (.i (.t (.a Va K1) Vb) (.t Va Vb)) rfl this)⟩
      have:=zcY hg'
      lia
    subst i0
    have:L=[]:=by
     have:=congrArg List.length hview
     simp [zbd] at this; exact this
    rw [e3,this,e4 (by exact zaj (.i (.e Va K0) (.i (.A (.l Vb Va) (.l Va (.a Vb Vc))) (.e Va Vb))) rfl z q)]; rfl
   ·rw [hf2 q]; exact hfi z
  ·have:¬ (zaQ G i≤crow∧crow≤zaQ G i+ll.g.1.length):=fun q=>by have:=hcur.only hgi q; exact zad (.i (.l (.a Va K1) Vb) (.n (.e Va Vb))) rfl z this
   rw [(hc2 this).2.2]; exact hwa (zad (.i (.l (.a Va K1) Vb) (.l Va Vb)) rfl z)
  ·by_cases q:zaQ G i≤crow∧crow≤zaQ G i+ll.g.1.length
   ·have:=hcur.only hgi q
    subst this
    have:gg=ll.g:=Option.some.inj (hcur.at_.symm.trans hgi)
    subst this
    have h1:=hc1 q
    have:=congrArg List.length hview
    rw [List.length_map] at this
    rw [← this]; exact h1
   ·have hne:i≠gc:=fun z2=>q (by
     subst z2
     have:gg=ll.g:=Option.some.inj (hcur.at_.symm.trans hgi)
     have:=hcur.row
     subst gg
     exact zaj (.i (.e Va (.a Vb Vc)) (.A (.l Vb Va) (.l Va (.a Vb Vc)))) rfl this)
    obtain ⟨h1,h2,h3⟩:=hc2 q
    rw [h1,h2,h3]; exact hdone (zad (.i (.t Va (.a Vb K1)) (.i (.n (.e Vb Va)) (.t Va Vb))) rfl z hne)
 ·rintro ρ H3 ⟨x5,L,fi,ro,co,wa,spl,rfl,o3,li3,sp3,spn,hview,hLn,hda,hdc,fo3,hll,kp3,kp4,hcs,hfi,hwa,hdone⟩
  have e5:(zbP lls).length=G.length:=by simp [zbP,llG]
  rw [e5] at spn hview hdone
  have gcl:=(List.getElem?_eq_some_iff.mp hcur.at_).1
  have offn:zaQ G G.length≤100:=by unfold zaQ; rw [List.take_length,← lenls]; exact zag (.i (.l Va (.k 100)) (.l Va (.k 100))) rfl hn
  exact Run.nil ⟨rfl,li,sp,L,fi,ro,co,wa,⟨o3,li3,⟨spl,sp3,by exact zad (.i (.l Va Vb) (.i (.l Vb (.k 100)) (.l Va (.k 3000)))) rfl spn offn⟩,hview,fun l hl=>(hLn l hl).1,fun l hl=>⟨bk1 _ (zaE E2 (hLn l hl).2.1),bk1 _ (zaE E2 (hLn l hl).2.2.1)⟩,fun l hl=>(hLn l hl).2.2.2,hda,hdc,⟨l1,s2⟩,s1.symm⟩,hfi,(hdone gcl).1,(hdone gcl).2.1,(hdone gcl).2.2,fun y m q z=>kp3 _ _ (kp1 _ _ q z) q (zal z l1) (zal z s2)⟩
end
section
variable {W:Wx} {H:Hp}
inductive PGv (li ro fi rows:Nat) (L:List Ln) (H:Hp) (x:V) (H':Hp):Prop
 | mk (e:x=.none) (n:Nat) (h1:ro+1≤n) (h2:n≤L.length) (h3:n≤fi+rows∨n=ro+1) (h4:n < L.length→fi+rows≤n) (h5:H' li=some (.list (zah (L.take n)))) (kp:∀ y m,y≠li→H y=some m→H' y=some m)
theorem zpi {ct li sp cols fi ro co rows:Nat} {wa:Bool} {L:List Ln} (o:H ct=some (.inst 644 (ctF cols li fi ro co wa sp))) (hli:H li=some (.list (zah L))) (hL:∀ l ∈ L,zaD H l) (hsep:∀ l ∈ L,l.c≠li) (hb:∀ j l,ro < j→L[j]?=some l→l.wr=false∧∃ k,k≤7∧l.cells=List.replicate k zar) (hro:ro+1≤L.length) (hn:L.length≤500) :
  zae W 3 (.ref 634) [.ref ct,.int rows] H (PGv li ro fi rows L H):=by
 refine zl3 _ _ ?_
 unfold zg2
 let St:Nat→Hp→Prop:=fun n H'=>ro+1≤n∧n≤L.length∧(n < L.length→fi+rows≤n)∧H' li=some (.list (zah (L.take n)))∧∀ y m,y≠li→H y=some m→H' y=some m
 refine Run.whl (J:=fun n ρ H'=>(∃ x2,ρ=[some (.ref ct),some (.int rows),x2])∧St n H') (B:=fun n ρ H'=>(∃ x2,ρ=[some (.ref ct),some (.int rows),x2])∧St n H'∧fi+rows < n∧ro+1 < n)
  (N:=fun ρ H'=>∃ n,St n H'∧(n≤fi+rows∨n=ro+1)) (Z:=fun _ _=>False) L.length ⟨⟨none,rfl⟩,hro,Nat.le_refl _,fun z=>absurd z (Nat.lt_irrefl _),by rw [List.take_length]; exact hli,fun _ _ _ h=>h⟩ ?_ ?_ ?_ (fun _ _ z=>z.elim)
 ·rintro n ρ H1 ⟨⟨x2,rfl⟩,h1,h2,h3,h4,h5⟩
  have o1:=h5 _ _ (zam o hli rfl) o
  have len:(zah (L.take n)).length=n:=by simp [zah]; exact zad (.i (.l Va Vb) (.e (.m Va Vb) Va)) rfl h2
  unfold ctF at o1
  walk_at "r"
  rw [len]
  by_cases q:fi+rows < n
  ·refine r_t (decide_eq_true (zaj (.i (.t (.a Va Vb) Vc) (.T (.c Vb) (.s (.c Vc) (.c Va)))) rfl q)) ?_
   walk_at "c"
   rw [len]
   by_cases q2:ro+1 < n
   ·rw [decide_eq_true (by exact zad (.i (.t (.a Va K1) Vb) (.T (.c Va) (.s (.c Vb) K1))) rfl q2)]
    exact Run.nil ⟨rfl,⟨x2,rfl⟩,⟨h1,h2,h3,h4,h5⟩,q,q2⟩
   ·rw [decide_eq_false (by exact zad (.i (.n (.t (.a Va K1) Vb)) (.n (.T (.c Va) (.s (.c Vb) K1)))) rfl q2)]
    exact Run.nil ⟨rfl,n,⟨h1,h2,h3,h4,h5⟩,.inr (zad (.i (.l (.a Va K1) Vb) (.i (.n (.t (.a Va K1) Vb)) (.e Vb (.a Va K1)))) rfl h1 q2)⟩
  ·refine r_f (decide_eq_false (zaj (.i (.n (.t (.a Va Vb) Vc)) (.n (.T (.c Vb) (.s (.c Vc) (.c Va))))) rfl q)) ?_
   walk_at "c"
   exact Run.nil ⟨rfl,n,⟨h1,h2,h3,h4,h5⟩,.inl (zaj (.i (.n (.t (.a Va Vb) Vc)) (.l Vc (.a Va Vb))) rfl q)⟩
 ·rintro n ρ H1 ⟨⟨x2,rfl⟩,⟨h1,h2,h3,h4,h5⟩,q1,q2⟩
  have o1:=h5 _ _ (zam o hli rfl) o
  have len:(zah (L.take n)).length=n:=by simp [zah]; exact zad (.i (.l Va Vb) (.e (.m Va Vb) Va)) rfl h2
  obtain ⟨l,hl⟩:∃ l,L[n - 1]?=some l:=⟨_,List.getElem?_eq_getElem (zaj (.i (.l (.a Va K1) Vb) (.i (.l Vc Vb) (.t (.s Vc K1) Vb))) rfl hro h2)⟩
  obtain ⟨w,k,hk,cs⟩:=hb (n - 1) l (zad (.i (.t (.a Va K1) Vb) (.t Va (.s Vb K1))) rfl q2) hl
  have lm:=List.mem_of_getElem? hl
  have lo:=h5 _ _ (zam (hL l lm).o hli rfl) (hL l lm).o
  have lc:=h5 _ _ (hsep l lm) (hL l lm).cs
  have ts:zah (L.take n)=zah (L.take (n - 1))++[V.ref l.a]:=by
   rw [show n=(n - 1)+1 by exact zad (.i (.l (.a Va K1) Vb) (.e Vb (.a (.s Vb K1) K1))) rfl h1,zbW hl,zb9]; rfl
  rw [w] at lo
  rw [cs] at lc
  unfold lf at lo
  unfold ctF at o1
  walk_at "r"
  refine zaB h4 (by decide) (x:=.ref l.a) (by
   unfold at?
   rw [if_pos (by exact lin (.T (.g K1) K0) [] rfl),if_pos (by exact zaj (.i (.l (.a Va K1) Vb) (.i (.e Vc Vb) (.L (.g (.c Vc)) (.g K1)))) rfl h1 len),len,show ((-1:Int)+(n:Nat)).toNat=n - 1 by exact zag (.e (.t (.a (.g K1) (.c Va))) (.s Va K1)) rfl,ts,List.getElem?_append_right (by simp [zah]; exact zad (.l (.m (.s Va K1) Vb) (.s Va K1)) rfl),show n - 1 - (zah (L.take (n - 1))).length=0 by simp [zah]; exact zad (.i (.l Va Vb) (.e (.s (.s Va K1) (.m (.s Va K1) Vb)) K0)) rfl h2]
   rfl) ?_
  walk_at "r"
  refine zav ((zjo (p:=[]) (k:=k) (by rw [List.nil_append]; exact lc) (by simp; exact zag (.i (.l Va (.k 7)) (.l Va (.k 900))) rfl hk) (by intro t c z; simp at z)).tu rfl) rfl ?_
  rintro _ H2 ⟨c,rfl,f2,g2,E2⟩
  refine zbk fun c3 H3 f3 g3 E3=>?_
  refine zcg (n:=2) (m:=2) (.list (E3 _ _ g2) .nil) (.list g3 .nil) (lin (.l K2 (.k 60)) [] rfl) (lin (.l K2 (.k 60)) [] rfl) (b:=false) (by decide +kernel) ?_
  have o3:=E3 _ _ (E2 _ _ o1)
  have l3:=E3 _ _ (E2 _ _ h4)
  walk_at "r"
  refine ziM l3 ?_
  rw [ts] at l3
  refine ziP l3 (by simp [zah]; exact zad (.i (.l Va (.k 500)) (.l (.m (.s Vb K1) Va) (.k 1000000))) rfl hn) ?_
  walk_at "r"
  exact Run.nil ⟨n - 1,by exact zad (.i (.l (.a Va K1) Vb) (.t (.s Vb K1) Vb)) rfl h1,⟨_,rfl⟩,by exact zad (.i (.t (.a Va K1) Vb) (.l (.a Va K1) (.s Vb K1))) rfl q2,by exact zad (.i (.l Va Vb) (.l (.s Va K1) Vb)) rfl h2,fun _=>by exact zaj (.i (.t (.a Va Vb) Vc) (.l (.a Va Vb) (.s Vc K1))) rfl q1,zai,fun y m z hm=>zak (E3 _ _ (E2 _ _ (h5 y m z hm))) z⟩
 ·rintro ρ H1 ⟨n,⟨h1,h2,h3,h4,h5⟩,q⟩
  exact Run.nil ⟨rfl,n,h1,h2,q,h3,h4,h5⟩
theorem zpT {ct li sp cols fi ro co rows:Nat} {wa:Bool} {L:List Ln} (o:H ct=some (.inst 644 (ctF cols li fi ro co wa sp))) (hli:H li=some (.list (zah L))) (hn:L.length≤500) :
  zae W 1 (.ref 641) [.ref ct,.int rows] H (is (.int (if fi+rows < L.length then min ((L.length:Int) - rows) ro else max 0 (min (fi:Int) ((L.length:Int) - rows)))) H):=by
 refine zl4 _ _ ?_
 unfold zg3
 have len:(zah L).length=L.length:=by simp [zah]
 unfold ctF at o
 walk_at "r"
 rw [len]
 by_cases q:fi+rows < L.length
 ·refine r_t (decide_eq_true (zaj (.i (.t (.a Va Vb) Vc) (.T (.c Vb) (.s (.c Vc) (.c Va)))) rfl q)) ?_
  walk_at "c"
  rw [len,if_pos q]
  exact Run.ret ⟨rfl,rfl⟩
 ·refine r_f (decide_eq_false (zaj (.i (.n (.t (.a Va Vb) Vc)) (.n (.T (.c Vb) (.s (.c Vc) (.c Va))))) rfl q)) ?_
  walk_at "c"
  rw [len,if_neg q]
  exact Run.ret ⟨rfl,rfl⟩
theorem zqj {fi ro rows n:Nat} (hr:1≤rows) (h1:ro+1≤n) (h2:n≤fi+rows∨n=ro+1) (h3:ro+1 < n→fi=0):(if fi+rows < n then min ((n:Int) - rows) ro else max 0 (min (fi:Int) ((n:Int) - rows)))=((ro+1 - rows:Nat):Int)∧n≤(ro+1 - rows)+rows:=by
 rcases Nat.eq_or_lt_of_le h1 with e | q2
 ·subst e
  refine ⟨?_,Nat.sub_le_iff_le_add.mp (Nat.le_refl _)⟩
  by_cases q:fi+rows < ro+1
  ·rw [if_pos q,Int.min_eq_left (by exact zad (.i (.l K1 Va) (.L (.s (.c (.a Vb K1)) (.c Va)) (.c Vb))) rfl hr),Int.ofNat_sub (by exact zaj (.i (.t (.a Va Vb) (.a Vc K1)) (.l Vb (.a Vc K1))) rfl q)]
  ·rw [if_neg q,Int.min_eq_right (by exact zaj (.i (.n (.t (.a Va Vb) (.a Vc K1))) (.L (.s (.c (.a Vc K1)) (.c Vb)) (.c Va))) rfl q),zim]
 ·have e:=h3 q2
  subst e
  have q:n≤rows:=by exact zaj (.i (.t (.a Va K1) Vb) (.i (.O (.l Vb (.a K0 Vc)) (.e Vb (.a Va K1))) (.l Vb Vc))) rfl q2 h2
  rw [if_neg (by exact zad (.i (.l Va Vb) (.n (.t (.a K0 Vb) Va))) rfl q),Int.max_eq_left (show min ((0:Nat):Int) _≤0 from Int.min_le_left _ _),Nat.sub_eq_zero_of_le (by exact zaj (.i (.l (.a Va K1) Vb) (.i (.l Vb Vc) (.l (.a Va K1) Vc))) rfl h1 q)]
  exact ⟨rfl,by exact zad (.i (.l Va Vb) (.l Va (.a K0 Vb))) rfl q⟩
end
structure zeu (n cols:Nat) (H:Hp) (ls:List Ln) (H':Hp):Prop where
 len:ls.length=n
 at_:∀ l ∈ ls,zaD H' l
 fr:∀ l ∈ ls,H l.a=none∧H l.c=none
 cs:∀ l ∈ ls,l.cells=List.replicate cols zar∧l.wr=false
 nda:(ls.map (·.a)).Nodup
 ndc:(ls.map (·.c)).Nodup
section
variable {W:Wx} {H:Hp}
inductive PGi (g rows cols:Nat) (H:Hp) (x:V) (H':Hp):Prop
 | mk (e:x=.none) (gl:Nat) (ls:List Ln) (f:H gl=none) (h1:H' g=some (.inst 396 [(3,.int rows),(4,.int cols),(5,.ref gl)])) (h2:H' gl=some (.list (zah ls))) (N:zeu rows cols H ls H') (h3:∀ l ∈ ls,l.c≠gl) (kp:∀ y m,y≠g→H y=some m→H' y=some m)
inductive PGn (rows cols:Nat) (H:Hp) (x:V) (H':Hp):Prop
 | mk (g gl:Nat) (ls:List Ln) (e:x=.ref g) (f0:H g=none) (f:H gl=none) (h1:H' g=some (.inst 396 [(3,.int rows),(4,.int cols),(5,.ref gl)])) (h2:H' gl=some (.list (zah ls))) (N:zeu rows cols H ls H') (h3:∀ l ∈ ls,l.c≠gl) (E:Ext H H')
inductive PHi (h n:Nat) (H:Hp) (x:V) (H':Hp):Prop
 | mk (e:x=.none) (hl:Nat) (f:H hl=none) (h1:H' h=some (.inst 478 [(6,.int n),(5,.ref hl),(7,.int 0)])) (h2:H' hl=some (.list [])) (kp:∀ y m,y≠h→H y=some m→H' y=some m)
inductive PHn (n:Nat) (H:Hp) (x:V) (H':Hp):Prop
 | mk (h hl:Nat) (e:x=.ref h) (f0:H h=none) (f:H hl=none) (h1:H' h=some (.inst 478 [(6,.int n),(5,.ref hl),(7,.int 0)])) (h2:H' hl=some (.list [])) (E:Ext H H')
theorem zoS {g:Nat} (rows cols:Nat) (hr:1≤rows∧rows≤7) (hc:1≤cols∧cols≤7) (e:H g=some (.inst 396 [])):zae W 6 (.ref 267) [.ref g,.int rows,.int cols] H (PGi g rows cols H):=by
 refine zlF _ _ _ ?_
 unfold zeA
 walk_at "r"
 refine r_f (decide_eq_false (zag (.i (.A (.l K1 Va) (.l Va (.k 7))) (.n (.T (.c Va) K1))) rfl hr)) ?_
 walk_at "c"
 refine r_f (decide_eq_false (zag (.i (.A (.l K1 Va) (.l Va (.k 7))) (.n (.T (.c Va) K1))) rfl hc)) ?_
 walk_at "c"
 refine zaq e rfl rfl ?_
 walk_at "r"
 refine zaq zai rfl rfl ?_
 rw [zaC]
 have eq0:zab H g (.inst 396 (zaF 4 (.int cols) (zaF 3 (.int rows) [])))=zab H g (.inst 396 [(3,.int rows),(4,.int cols)]):=rfl
 rw [eq0]
 have e1:zab H g (.inst 396 [(3,.int rows),(4,.int cols)]) g=some (.inst 396 [(3,.int rows),(4,.int cols)]):=zai
 have kp1:∀ y m,y≠g→H y=some m→zab H g (.inst 396 [(3,.int rows),(4,.int cols)]) y=some m:=fun y m q z=>zak z q
 have bk1:∀ y,zab H g (.inst 396 [(3,.int rows),(4,.int cols)]) y=none→H y=none:=fun y z=>by
  unfold zab at z
  split at z
  ·injection z
  ·exact z
 generalize zab H g (.inst 396 [(3,.int rows),(4,.int cols)])=H1 at *
 refine Run.has (by intro j hj; simp at hj; subst hj; exact ⟨_,rfl⟩) ?_
 walk_at "r"
 refine Run.lc (l:=(List.range rows).map fun (i:Nat)=>V.int (i:Int)) (J:=JNl cols H1) (args:=[.int rows]) rfl rfl ⟨[],rfl,.nil⟩ (fun i acc H' _ _=>⟨by exact zag (.L (.g (.k 1000)) (.c Va)) rfl,by exact zag (.i (.A (.l K1 Va) (.l Va (.k 7))) (.L (.c Va) (.k 1000))) rfl hr,by simp⟩) (by simp; exact zag (.i (.A (.l K1 Va) (.l Va (.k 7))) (.l Va (.k 1000))) rfl hr) (fun i x acc H' hx hac hj=>?_) (fun acc H' hac hj a ha=>?_)
 ·obtain ⟨ls,rfl,hN⟩:=hj
  have hi:i < rows:=by
   by_cases q:i < rows
   ·exact q
   ·rw [List.getElem?_eq_none (by simp; exact zad (.i (.n (.t Va Vb)) (.l Vb Va)) rfl q)] at hx; injection hx
  rw [List.getElem?_map,List.getElem?_range hi] at hx
  cases hx
  show Run W 5 _ [.int i] [none,some (.int cols)] H' _
  walk_at "c"
  refine zas ((zfG cols 0 (zag (.i (.A (.l K1 Va) (.l Va (.k 7))) (.l Va (.k 1000))) rfl hc)).tu rfl) rfl ?_
  rintro _ H2 ⟨l,rfl,f1,f2,hl,hcs,hw,hE⟩
  exact Run.nil ⟨ls++[l],by rw [zb9]; rfl,hN.snoc f1 f2 hl hcs hw hE⟩
 ·obtain ⟨ls,rfl,hN⟩:=hj
  rw [List.length_map,List.length_range] at hN
  have o2:=hN.ext _ _ e1
  have ha0:H1 a=none:=zaE hN.ext ha
  have ag:a≠g:=(zal e1 ha0).symm
  walk_at "r"
  refine zaq (zak o2 ag.symm) rfl rfl ?_
  have N2:=hN.ext' (Ext.new (m:=.list (zah ls)) ha)
  have gn:∀ {y m},zab H' a (.list (zah ls)) y=some m→y≠g→zab (zab H' a (.list (zah ls))) g (.inst 396 (zaF 5 (.ref a) [(3,.int rows),(4,.int cols)])) y=some m:=fun z q=>zak z q
  refine Run.nil ⟨rfl,a,ls,bk1 _ ha0,zai,gn zai ag,⟨N2.len,fun l hl=>?_,fun l hl=>⟨bk1 _ (N2.fr l hl).1,bk1 _ (N2.fr l hl).2⟩,N2.cs,N2.nda,N2.ndc⟩,fun l hl=>zal (hN.at_ l hl).cs ha,fun y m q z=>gn (N2.ext _ _ (kp1 _ _ q z)) q⟩
  obtain ⟨f1,f2⟩:=N2.fr l hl
  exact ⟨gn (N2.at_ l hl).o (zal e1 f1).symm,gn (N2.at_ l hl).cs (zal e1 f2).symm⟩
theorem zjg (rows cols:Nat) (hr:1≤rows∧rows≤7) (hc:1≤cols∧cols≤7):zae W 7 (.ref 396) [.int rows,.int cols] H (PGn rows cols H):=by
 refine zbw (f:=267) (by decide) fun g hg=>(zoS rows cols hr hc zai).mono ?_
 rintro _ H' ⟨rfl,gl,ls,f1,o,l,N,ng,k⟩
 have bk:∀ y,zab H g (.inst 396 []) y=none→H y=none:=fun y z=>by
  unfold zab at z
  split at z
  ·injection z
  ·exact z
 exact ⟨rfl,g,gl,ls,rfl,hg,bk _ f1,o,l,⟨N.len,N.at_,fun l hl=>⟨bk _ (N.fr l hl).1,bk _ (N.fr l hl).2⟩,N.cs,N.nda,N.ndc⟩,ng,fun y m z=>k _ _ (zal z hg) (Ext.new hg _ _ z)⟩
theorem zoT {h:Nat} (n:Nat) (e:H h=some (.inst 478 [])):zae W 1 (.ref 428) [.ref h,.int n] H (PHi h n H):=by
 refine zlK _ _ ?_
 unfold zgJ
 walk_at "r"
 refine zaq e rfl rfl ?_
 refine zc1 fun hl fhl=>?_
 have n0:hl≠h:=fun z=>by rw [z,zai] at fhl; injection fhl
 rw [zao n0] at fhl
 walk_at "r"
 refine zaq (zak zai n0.symm) rfl rfl ?_
 walk_at "r"
 refine zaq zai rfl rfl ?_
 rw [zaC]
 exact Run.nil ⟨rfl,hl,fhl,zai,zak zai n0,fun y m q z=>zak (zak (zak z q) (zal z fhl)) q⟩
theorem zjh (n:Nat):zae W 2 (.ref 478) [.int n] H (PHn n H):=by
 refine zbw (f:=428) (by decide) fun h hh=>(zoT n zai).mono ?_
 rintro _ H' ⟨rfl,hl,f1,o,l,k⟩
 have n0:hl≠h:=fun z=>by rw [z,zai] at f1; injection f1
 rw [zao n0] at f1
 exact ⟨rfl,h,hl,rfl,hh,f1,o,l,fun y m z=>k _ _ (zal z hh) (Ext.new hh _ _ z)⟩
end
structure zet (s:Scr) (G:List Gp) (gc:Nat) (gg:Gp):Prop where
 lv:s.lv=(G.flatMap zap).map (fun q=>zaz s.cols (zac q.1,q.2))
 ok:zdc s.cols (G.flatMap zap)
 tx:∀ g ∈ G,g.text.length≤100
 cur:zdD G gc gg (s.hist.length+s.row) s.col s.wait
 rest:∀ j g,gc < j→G[j]?=some g→g=([],[])
 bl:gc+1 < G.length→s.hist.length=0
 hn:s.all.length≤100
 new:∀ cols,2≤cols→∀ i,(zbd cols G i).length≤400
noncomputable def zcP (cols:Nat):List zaa × Bool:=(List.replicate cols zar,false)
noncomputable def V1 (cols:Nat) (G:List Gp) (gc:Nat) (gg:Gp):List (List zaa × Bool):=zbd cols G gc++zbX cols (cut cols gg.text)
theorem zjz (cols:Nat) (g:Gp):(zbX cols g).length=g.1.length+1:=by unfold zbX zap; simp
theorem zio {cols gc:Nat} {G:List Gp} {gg:Gp} (hg:G[gc]?=some gg) (hr:∀ j g,gc < j→G[j]?=some g→g=([],[])):∀ k,gc+1+k≤G.length→zbd cols G (gc+1+k)=V1 cols G gc gg++List.replicate k (zcP cols)
 | 0,_=>by rw [Nat.add_zero,zfj hg,List.replicate_zero,List.append_nil]; rfl
 | k+1,h=>by
  obtain ⟨g,hg'⟩:∃ g,G[gc+1+k]?=some g:=⟨_,List.getElem?_eq_getElem (zaj (.i (.l (.a (.a Va K1) (.a Vb K1)) Vc) (.t (.a (.a Va K1) Vb) Vc)) rfl h)⟩
  have:=hr _ g (zad (.t Va (.a (.a Va K1) Vb)) rfl) hg'
  subst this
  rw [show gc+1+(k+1)=(gc+1+k)+1 by exact zad (.e (.a (.a Va K1) (.a Vb K1)) (.a (.a (.a Va K1) Vb) K1)) rfl,zfj hg',zio hg hr k (by exact zaj (.i (.l (.a (.a Va K1) (.a Vb K1)) Vc) (.l (.a (.a Va K1) Vb) Vc)) rfl h),List.replicate_succ',List.append_assoc]
  rfl
structure CutE (cols rows:Nat) (H H':Hp) (ct li sp:Nat) (M:List Ln) (V:List (List zaa × Bool)) (fi ro co:Nat) (wa:Bool):Prop where
 o:H' ct=some (.inst 644 (ctF cols li fi ro co wa sp))
 hli:H' li=some (.list (zah M))
 view:∃ k,M.map (fun l=>(l.cells,l.wr))=V++List.replicate k (zcP cols)∧(0 < k→fi=0)
 stop:M.length≤fi+rows∨M.length=V.length
 row:ro+1=V.length
 at_:∀ l ∈ M,zaD H' l
 fr:∀ l ∈ M,H l.a=none∧H l.c=none
 sep:∀ l ∈ M,l.c≠li
 nda:(M.map (·.a)).Nodup
 ndc:(M.map (·.c)).Nodup
 len:M.length≤400
 ext:Ext H H'
 fl:H li=none
inductive zjJ (cols rows:Nat) (H:Hp) (V':List (List zaa × Bool)) (gg:Gp) (x:V) (H':Hp):Prop
 | mk (ct li sp:Nat) (M:List Ln) (fi ro co:Nat) (wa:Bool) (e:x=.ref ct) (c:CutE cols rows H H' ct li sp M V' fi ro co wa) (h2:co=min (zac (cut cols gg.text).2).length (cols - 1)) (h3:wa=((zac (cut cols gg.text).2).length == cols))
inductive zjI (cols:Nat) (H:Hp) (fst gc:Nat) (gg:Gp) (G:List Gp) (x:V) (H':Hp):Prop
 | mk (ct li sp:Nat) (L:List Ln) (fi ro co:Nat) (wa:Bool) (e:x=.ref ct) (d:CutD cols H H' ct li sp L (zbd cols G G.length) fi ro co wa) (h0:fst=0→fi=0) (h1:ro=(zbd cols G gc).length+(cut cols gg.text).1.length)
  (h2:co=min (zac (cut cols gg.text).2).length (cols - 1)) (h3:wa=((zac (cut cols gg.text).2).length == cols)) (E:Ext H H')
section
variable {W:Wx} {H:Hp} {s:Scr}
theorem zpd {G:List Gp} {gc:Nat} {gg:Gp} {rows cols:Nat} (h:Is H s) (y:zet s G gc gg) (hcols:2≤cols∧cols≤7):zae W 10 (.ref 655) [.ref s.sc,.int rows,.int cols] H (zjJ cols rows H (V1 cols G gc gg) gg):=by
 refine zl5 _ _ _ ?_
 unfold zg4
 have h1:=h.sc
 have h2:=h.cu
 have h3:=h.hi
 have h4:=h.gr
 have h5:=h.hl
 have h6:=h.gl
 have lh:(zah s.hist).length=s.hist.length:=by simp [zah]
 have lg:(zah s.grid).length=s.grid.length:=by simp [zah]
 have hb:=h.rb
 have hr:=h.rwb
 have hn:=h.hn
 have hgn:=h.gn
 walk_at "r"
 rw [lh]
 refine zdu h5 h6 (za6 (.i (.e Va Vb) (.i (.e Vc Vd) (.i (.A (.l K1 Ve) (.l Ve (.k 4))) (.i (.l Vb (.k 300)) (.i (.e Vd Ve) (.l (.a Va Vc) (.k 1000000))))))) rfl lh lg hr hn hgn) fun la H1 f1 g1 E1=>?_
 have ra:zah s.hist++zah s.grid=zah s.all:=(zb9 _ _).symm
 rw [ra] at g1
 have k5:=E1 _ _ h5
 walk_at "r"
 rw [lh,show (s.hist.length:Int)+(s.row:Int)=((s.hist.length+s.row:Nat):Int) from rfl]
 have cls:zae W 9 (.ref 644) [.ref la,.int cols,.int s.hist.length,.tup [.int ((s.hist.length+s.row:Nat):Int),.int s.col,.bool s.wait]] H1 (zjI cols H1 s.hist.length gc gg G):=by
  refine zbw (f:=606) (by decide) fun ct hct=>?_
  have n0:∀ {y m},H1 y=some m→zab H1 ct (.inst 644 []) y=some m:=fun z=>Ext.new hct _ _ z
  refine (zo9 (W:=W) (la:=la) (ls:=s.all) h.cl hcols y.lv y.ok y.hn y.tx (y.new cols hcols.1) y.cur (n0 g1) (fun l hl=>((h.ln l hl).ext E1).ext (Ext.new hct)) zai).mono ?_
  rintro _ H' ⟨rfl,li,sp,L,fi,ro,co,wa,D,q1,q2,q3,q4,q5⟩
  have bk:∀ z,zab H1 ct (.inst 644 []) z=none→H1 z=none:=fun z hz=>by
   unfold zab at hz
   split at hz
   ·injection hz
   ·exact hz
  exact ⟨rfl,ct,li,sp,L,fi,ro,co,wa,rfl,⟨D.o,D.hli,D.hsp,D.view,D.at_,fun l hl=>⟨bk _ (D.fr l hl).1,bk _ (D.fr l hl).2⟩,D.sep,D.nda,D.ndc,⟨bk _ D.f0.1,bk _ D.f0.2⟩,D.ne⟩,q1,q2,q3,q4,fun z m hz=>q5 _ _ (zal hz hct) (n0 hz)⟩
 refine zec (cls.tu rfl) rfl ?_
 rintro _ H2 ⟨ct,li,sp,L,fi,ro,co,wa,rfl,D,q1,q2,q3,q4,E2⟩
 have gcl:=(List.getElem?_eq_some_iff.mp y.cur.at_).1
 have hv:L.map (fun l=>(l.cells,l.wr))=V1 cols G gc gg++List.replicate (G.length - (gc+1)) (zcP cols):=by
  rw [D.view,← zio y.cur.at_ y.rest (G.length - (gc+1)) (Nat.le_of_eq (Nat.add_sub_cancel' gcl)),Nat.add_sub_cancel' gcl]
 have lv1:(V1 cols G gc gg).length=ro+1:=by unfold V1; rw [List.length_append,zjz,q2]; exact zad (.e (.a Va (.a Vb K1)) (.a (.a Va Vb) K1)) rfl
 have Llen:L.length=ro+1+(G.length - (gc+1)):=by have:=congrArg List.length hv; rw [List.length_map,List.length_append,lv1,List.length_replicate] at this; exact this
 have L400:L.length≤400:=by have:=congrArg List.length D.view; rw [List.length_map] at this; rw [this]; exact y.new cols hcols.1 _
 have D_o:=D.o
 unfold ctF at D_o
 walk_at "r"
 refine zas ((zpi (W:=W) (rows:=rows) D.o D.hli D.at_ (fun l hl=>(D.sep l hl).1) (fun j l hj hl=>by
  have:=congrArg (·[j]?) hv
  simp only [List.getElem?_map,hl,Option.map_some] at this
  rw [List.getElem?_append_right (by exact zaj (.i (.e Va (.a Vb K1)) (.i (.t Vb Vc) (.l Va Vc))) rfl lv1 hj),List.getElem?_replicate] at this
  split at this
  ·have:=Option.some.inj this
   exact ⟨congrArg Prod.snd this,cols,hcols.2,congrArg Prod.fst this⟩
  ·injection this) (zaG (.i (.e Va (.a (.a Vb K1) (.s Vc (.a Vd K1)))) (.l (.a Vb K1) Va)) rfl Llen) (zag (.i (.l Va (.k 400)) (.l Va (.k 500))) rfl L400)).tu rfl) rfl ?_
 rintro _ H3 ⟨rfl,n,n1,n2,n3,n4,n5,n6⟩
 walk_at "r"
 have tm:∀ l ∈ L.take n,l ∈ L:=fun l hl=>List.mem_of_mem_take hl
 have bk1:∀ z,H1 z=none→H z=none:=fun z hz=>zaE E1 hz
 have nL:n≤L.length:=by assumption
 have nR:ro+1≤n:=by assumption
 have lt:(L.take n).length=n:=List.length_take_of_le nL
 have nk:n - (ro+1)≤G.length - (gc+1):=Nat.sub_le_iff_le_add'.mpr (Llen ▸ nL)
 refine Run.ret ⟨ct,li,sp,L.take n,fi,ro,co,wa,rfl,⟨n6 _ _ (zam D.o D.hli rfl) D.o,n5,⟨n - (ro+1),?_,fun z=>?_⟩,?_,lv1.symm,fun l hl=>?_,fun l hl=>⟨bk1 _ (D.fr l (tm l hl)).1,bk1 _ (D.fr l (tm l hl)).2⟩,fun l hl=>(D.sep l (tm l hl)).1,?_,?_,by exact zaj (.i (.l Va (.k 400)) (.i (.l Vb Va) (.i (.e Vc Vb) (.l Vc (.k 400))))) rfl L400 n2 lt,fun z m hz=>n6 _ _ ?_ (E2 _ _ (E1 _ _ hz)),bk1 _ D.f0.1⟩,q3,q4⟩
 ·rw [List.map_take,hv,List.take_append,lv1,List.take_of_length_le (lv1 ▸ nR),List.take_replicate,Nat.min_eq_left nk]
 ·exact q1 (y.bl (Nat.lt_of_sub_pos (Nat.lt_of_lt_of_le z nk)))
 ·rw [lt,lv1]; exact n3
 ·have z:=D.at_ l (tm l hl)
  exact ⟨n6 _ _ (zam z.o D.hli rfl) z.o,n6 _ _ (D.sep l (tm l hl)).1 z.cs⟩
 ·exact (List.map_take (f:=fun l:Ln=>l.a)) ▸ D.nda.sublist (List.take_sublist _ _)
 ·exact (List.map_take (f:=fun l:Ln=>l.c)) ▸ D.ndc.sublist (List.take_sublist _ _)
 ·exact fun q=>zal (E1 _ _ hz) D.f0.1 q
end
structure zdI (rows cols:Nat) (H H':Hp) (g gl h hl:Nat) (hist grid:List Ln) (V:List (List zaa × Bool)):Prop where
 og:H' g=some (.inst 396 [(3,.int rows),(4,.int cols),(5,.ref gl)])
 ogl:H' gl=some (.list (zah grid))
 oh:H' h=some (.inst 478 [(6,.int 400),(5,.ref hl),(7,.int 0)])
 ohl:H' hl=some (.list (zah hist))
 at_:∀ l ∈ hist++grid,zaD H' l
 fr:∀ l ∈ hist++grid,H l.a=none∧H l.c=none
 f0:H g=none∧H gl=none∧H h=none∧H hl=none
 sep:∀ l ∈ hist++grid,l.c≠gl∧l.c≠hl
 ne:hl≠gl
 nda:((hist++grid).map (·.a)).Nodup
 ndc:((hist++grid).map (·.c)).Nodup
 view:(hist++grid).map (fun l=>(l.cells,l.wr))=V++List.replicate (rows - V.length) (zcP cols)
 lh:hist.length=V.length - rows
 lg:grid.length=rows
 ext:Ext H H'
section
variable {W:Wx} {H:Hp} {s:Scr}
inductive PRf (rows cols:Nat) (H:Hp) (V':List (List zaa × Bool)) (gg:Gp) (x:V) (H':Hp):Prop
 | mk (g gl h hl:Nat) (hist grid:List Ln) (co:Nat) (wa:Bool) (e:x=.tup [.ref g,.ref h,.tup [.int ((V'.length - 1 - (V'.length - rows):Nat):Int),.int (co:Nat),.bool wa]]) (r:zdI rows cols H H' g gl h hl hist grid V')
  (h2:co=min (zac (cut cols gg.text).2).length (cols - 1)) (h3:wa=((zac (cut cols gg.text).2).length == cols))
theorem zpK {G:List Gp} {gc:Nat} {gg:Gp} {rows cols:Nat} (h:Is H s) (y:zet s G gc gg) (hcols:2≤cols∧cols≤7) (hrows:1≤rows∧rows≤4):zae W 11 (.ref 662) [.ref s.sc,.int rows,.int cols] H (PRf rows cols H (V1 cols G gc gg) gg):=by
 refine zl6 _ _ _ ?_
 unfold zg5
 walk_at "r"
 refine za0 ((zpd (rows:=rows) h y hcols).tu rfl) rfl ?_
 rintro _ H1 ⟨ct,li,sp,M,fi,ro,co,wa,rfl,E,q1,q2⟩
 obtain ⟨k,hview,hk0⟩:=E.view
 have hMl:M.length=ro+1+k:=by have:=congrArg List.length hview; rw [List.length_map,List.length_append,List.length_replicate,← E.row] at this; exact this
 obtain ⟨t1,t2⟩:=zqj (fi:=fi) (ro:=ro) (rows:=rows) (n:=M.length) hrows.1 (hMl ▸ Nat.le_add_right _ _) (by rw [E.row]; exact E.stop) (fun z=>hk0 (Nat.pos_of_lt_add_right (hMl ▸ z)))
 have o1:=E.o
 have l1:=E.hli
 have Mn:=E.len
 have h1:=E.ext _ _ h.sc
 have h3:=E.ext _ _ h.hi
 have o1':=o1
 unfold ctF at o1'
 walk_at "r"
 refine zas ((zpT (rows:=rows) o1 l1 (Nat.le_trans Mn (by decide))).tu rfl) rfl ?_
 refine zat ?_
 rw [t1]
 generalize ht:ro+1 - rows=t at *
 have rM:(zah M).length=M.length:=List.length_map _
 have tM:t≤M.length:=hMl ▸ ht ▸ Nat.le_trans (Nat.sub_le _ _) (Nat.le_add_right _ _)
 have rB:(zah M).length≤1000000:=rM ▸ zfi Mn (by decide)
 have t3:M.length - t≤rows:=Nat.sub_le_iff_le_add'.mpr t2
 walk_at "r"
 refine zav ((zjh 400).tu rfl) rfl ?_
 rintro _ H2 ⟨hh,hl,rfl,fh,fhl,oh,ohl,E2⟩
 have h1b:=E2 _ _ h1
 have h3b:=E2 _ _ h3
 have o2:=E2 _ _ o1'
 have l2:=E2 _ _ l1
 walk_at "r"
 refine zaq oh rfl rfl ?_
 have self0:∀ m,m=MO.inst 478 [(6,.int (400:Nat)),(5,.ref hl),(7,.int 0)]→zab H2 hh m=H2:=fun m q=>by rw [q]; exact zbE oh
 rw [self0]
 rotate_left
 ·rfl
 walk_at "r"
 refine zbD none (some (t:Nat)) rfl rfl l2 rB (zcZ _ _) fun c3 H3 f3 g3 E3=>?_
 have oh3:=E3 _ _ oh
 have ohl3:=E3 _ _ ohl
 have c3n:c3≠hl:=(zal ohl f3).symm
 have tl:((zah M).take t).length=t:=List.length_take_of_le (rM ▸ tM)
 refine Run.fr (l:=(zah M).take t) (args:=[.ref c3]) (J:=fun i ρ H'=>(∃ x6,ρ=[some (.ref s.sc),some (.int rows),some (.int cols),some (.ref ct),some (.int (t:Nat)),some (.ref hh),x6,none,none])∧H'=zab H3 hl (.list ((zah M).take i))) (Z:=fun _ _=>False) rfl rfl ⟨⟨none,rfl⟩,by rw [List.take_zero]; exact (zbE ohl3).symm⟩ (fun i ρ H' _ hj=>?_) ?_ ?_ (fun _ _ z=>z.elim)
 ·obtain ⟨_,rfl⟩:=hj
  exact zak g3 c3n
 ·rintro i x ρ H' hx ⟨⟨x6,rfl⟩,rfl⟩
  have hi:i < t:=tl ▸ (List.getElem?_eq_some_iff.mp hx).1
  rw [List.getElem?_take_of_lt hi] at hx
  obtain ⟨l,hlM⟩:∃ l,M[i]?=some l:=⟨_,List.getElem?_eq_getElem (Nat.lt_of_lt_of_le hi tM)⟩
  have:x=.ref l.a:=by unfold zah at hx; rw [List.getElem?_map,hlM] at hx; exact (Option.some.inj hx).symm
  subst this
  have ohi:=zak oh3 (zam oh3 ohl3 rfl) (m':=.list ((zah M).take i))
  walk_at "c"
  refine zas ((zi8 ohi zai (by rw [List.length_take_of_le (rM ▸ Nat.le_of_lt (Nat.lt_of_lt_of_le hi tM))]; exact Nat.le_trans (Nat.lt_of_lt_of_le hi tM) Mn)).tu rfl) rfl ?_
  refine zat ?_
  rw [zaC]
  walk_at "r"
  refine Run.nil ⟨⟨_,rfl⟩,?_⟩
  rw [zbW hx]
 ·rintro ρ H' ⟨⟨x6,rfl⟩,rfl⟩
  rw [tl]
  have E13:=E.ext.trans (E2.trans E3)
  have nn:∀ {z m},H3 z=some m→z≠hl→zab H3 hl (.list ((zah M).take t)) z=some m:=fun a b=>zak a b
  have fhl0:H hl=none:=zaE E.ext fhl
  have fh0:H hh=none:=zaE E.ext fh
  have o4:=nn (E3 _ _ o2) (zam o2 ohl rfl)
  have l4:=nn (E3 _ _ l2) (zal l1 fhl)
  have oh4:=nn oh3 (zam oh3 ohl3 rfl)
  have ohl4:zab H3 hl (.list ((zah M).take t)) hl=some (.list ((zah M).take t)):=zai
  have E4:Ext H (zab H3 hl (.list ((zah M).take t))):=E13.upd fhl0
  have M4:∀ l ∈ M,zaD (zab H3 hl (.list ((zah M).take t))) l:=fun l hm=>by
   have z:=((E.at_ l hm).ext E2).ext E3
   exact ⟨nn z.o (zam z.o ohl3 rfl),nn z.cs (zal (E.at_ l hm).cs fhl)⟩
  generalize zab H3 hl (.list ((zah M).take t))=H4 at *
  walk_at "r"
  refine zas ((zjg rows cols ⟨hrows.1,Nat.le_trans hrows.2 (by decide)⟩ ⟨Nat.le_of_lt hcols.1,hcols.2⟩).tu rfl) rfl ?_
  rintro _ H5 ⟨g,gl,ls,rfl,fg,fgl,og,ogl,N,Nsep,E5⟩
  have o5:=E5 _ _ o4
  have l5:=E5 _ _ l4
  have lsl:=N.len
  walk_at "r"
  rw [show ((t:Nat):Int)+(rows:Int)=((t+rows:Nat):Int) from rfl]
  refine zbD (some (t:Nat)) (some ((t+rows:Nat):Int)) rfl rfl l5 rB (l':=(zah M).drop t) (by
   refine (zea _ _ _).trans ?_
   rw [List.take_of_length_le (by rw [List.length_drop,rM,Nat.add_sub_cancel_left]; exact t3)]) fun c6 H6 f6 g6 E6=>?_
  have og6:=E6 _ _ og
  have ogl6:=E6 _ _ ogl
  have c6n:c6≠gl:=(zal ogl f6).symm
  have dl:((zah M).drop t).length=M.length - t:=by rw [List.length_drop,rM]
  have rls:(zah ls).length=rows:=(List.length_map _).trans lsl
  have zl:(((zah M).drop t).zipIdx.map fun p=>V.tup [.int p.2,p.1]).length=M.length - t:=by rw [List.length_map,List.length_zipIdx,dl]
  let Li:Nat→List V:=fun i=>((zah M).drop t).take i++(zah ls).drop i
  refine Run.fr (l:=((zah M).drop t).zipIdx.map fun p=>.tup [.int p.2,p.1]) (args:=[.ref c6]) (J:=fun i ρ H'=>(∃ x6 x8,ρ=[some (.ref s.sc),some (.int rows),some (.int cols),some (.ref ct),some (.int (t:Nat)),some (.ref hh),x6,some (.ref g),x8])∧H'=zab H6 gl (.list (Li i))) (Z:=fun _ _=>False) rfl rfl ⟨⟨x6,none,rfl⟩,?_⟩ (fun i ρ H' _ hj=>?_) ?_ ?_ (fun _ _ z=>z.elim)
  ·show H6=zab H6 gl (.list ([]++(zah ls).drop 0))
   rw [List.nil_append,List.drop_zero]; exact (zbE ogl6).symm
  ·obtain ⟨_,rfl⟩:=hj
   exact ⟨(zah M).drop t,zak g6 c6n,rfl⟩
  ·rintro i x ρ H' hx ⟨⟨y6,y8,rfl⟩,rfl⟩
   have hi:i < M.length - t:=zl ▸ (List.getElem?_eq_some_iff.mp hx).1
   have ir:i < rows:=Nat.lt_of_lt_of_le hi t3
   rw [List.getElem?_map,List.getElem?_zipIdx,List.getElem?_drop] at hx
   obtain ⟨l,hlM⟩:∃ l,M[t+i]?=some l:=⟨_,List.getElem?_eq_getElem (zmM hi)⟩
   have hr:(zah M)[t+i]?=some (V.ref l.a):=by unfold zah; rw [List.getElem?_map,hlM]; rfl
   rw [hr] at hx
   simp at hx
   subst hx
   have og7:=zak og6 (zam og6 ogl6 rfl) (m':=.list (Li i))
   have a1:zab H6 gl (.list (Li i)) gl=some (.list (Li i)):=zai
   have tli:(((zah M).drop t).take i).length=i:=List.length_take_of_le (dl ▸ Nat.le_of_lt hi)
   have lli:(Li i).length=rows:=by show (((zah M).drop t).take i++(zah ls).drop i).length=_; rw [List.length_append,tli,List.length_drop,rls]; exact Nat.add_sub_cancel' (Nat.le_of_lt ir)
   walk_at "c"
   refine zon a1 (lli ▸ ir) (lli ▸ zfi hrows.2 (by decide)) ?_
   refine Run.nil ⟨⟨_,_,rfl⟩,?_⟩
   rw [zaC]
   congr 2
   show (((zah M).drop t).take i++(zah ls).drop i).set i _=((zah M).drop t).take (i+1)++(zah ls).drop (i+1)
   rw [List.set_append,tli,if_neg (Nat.lt_irrefl _),Nat.sub_self,zbW (x:=V.ref l.a) (by rw [List.getElem?_drop]; exact hr),List.append_assoc]
   congr 1
   rw [List.drop_eq_getElem_cons (show i < (zah ls).length from rls ▸ ir)]
   rfl
  ·rintro ρ H' ⟨⟨y6,y8,rfl⟩,rfl⟩
   rw [zl]
   have hLi:Li (M.length - t)=zah (M.drop t++ls.drop (M.length - t)):=by
    show ((zah M).drop t).take (M.length - t)++(zah ls).drop (M.length - t)=_
    rw [List.take_of_length_le (Nat.le_of_eq dl),zb9,zei,zei]
   rw [hLi]
   have n6:∀ {z m},H6 z=some m→z≠gl→zab H6 gl (.list (zah (M.drop t++ls.drop (M.length - t)))) z=some m:=fun a b=>zak a b
   have E46:=E5.trans E6
   have o7:=n6 (E6 _ _ o5) (zam (E6 _ _ o5) ogl6 rfl)
   have l7:=n6 (E6 _ _ l5) (zal l4 fgl)
   walk_at "r"
   rw [rM]
   refine r_f (decide_eq_false (zaj (.i (.l Va (.a Vb Vc)) (.n (.T (.a (.c Vb) (.c Vc)) (.c Va)))) rfl t2)) ?_
   walk_at "c"
   have fgl0:H gl=none:=zaE E4 fgl
   have hE:Ext H (zab H6 gl (.list (zah (M.drop t++ls.drop (M.length - t))))):=(E4.trans E46).upd fgl0
   have vl:(V1 cols G gc gg).length=ro+1:=E.row.symm
   have tR:t≤ro:=ht ▸ Nat.sub_le_of_le_add (Nat.add_le_add_left hrows.1 ro)
   have hsplit:M.take t++(M.drop t++ls.drop (M.length - t))=M++ls.drop (M.length - t):=by rw [← List.append_assoc,List.take_append_drop]
   have mem:∀ l ∈ M.take t++(M.drop t++ls.drop (M.length - t)),l ∈ M∨l ∈ ls:=fun l hm=>by
    rw [hsplit] at hm
    rcases List.mem_append.mp hm with hm | hm
    ·exact .inl hm
    ·exact .inr (List.mem_of_mem_drop hm)
   have hhl:hl≠gl:=zal ohl4 fgl
   refine Run.ret ⟨g,gl,hh,hl,M.take t,M.drop t++ls.drop (M.length - t),co,wa,?_,⟨n6 og6 (zam og6 ogl6 rfl),zai,n6 (E46 _ _ oh4) (zam (E46 _ _ oh4) ogl6 rfl),by rw [zfw]; exact n6 (E46 _ _ ohl4) hhl,fun l hm=>?_,fun l hm=>?_,⟨zaE E4 fg,fgl0,fh0,fhl0⟩,fun l hm=>?_,hhl,?_,?_,?_,?_,?_,hE⟩,q1,q2⟩
   ·rw [vl,show ro+1 - rows=t from ht,show ((ro+1 - 1 - t:Nat):Int)=(ro:Int) - (t:Int) from Int.ofNat_sub (tR)]
   ·rcases mem l hm with hm | hm
    ·have z:=(M4 l hm).ext E46
     exact ⟨n6 z.o (zam z.o ogl6 rfl),n6 z.cs (zal (M4 l hm).cs fgl)⟩
    ·have z:=(N.at_ l hm).ext E6
     exact ⟨n6 z.o (zam z.o ogl6 rfl),n6 z.cs (Nsep l hm)⟩
   ·rcases mem l hm with hm | hm
    ·exact E.fr l hm
    ·exact ⟨zaE E4 (N.fr l hm).1,zaE E4 (N.fr l hm).2⟩
   ·rcases mem l hm with hm | hm
    ·exact ⟨zal (M4 l hm).cs fgl,zal (E.at_ l hm).cs fhl⟩
    ·exact ⟨Nsep l hm,(zal ohl4 (N.fr l hm).2).symm⟩
   ·rw [hsplit,List.map_append,List.nodup_append]
    refine ⟨E.nda,?_,fun a ha b hb=>?_⟩
    ·exact (List.map_drop (f:=fun l:Ln=>l.a)) ▸ N.nda.sublist (List.drop_sublist _ _)
    ·obtain ⟨l,hm,rfl⟩:=List.mem_map.mp ha
     obtain ⟨l',hm',rfl⟩:=List.mem_map.mp hb
     exact zal (M4 l hm).o (N.fr l' (List.mem_of_mem_drop hm')).1
   ·rw [hsplit,List.map_append,List.nodup_append]
    refine ⟨E.ndc,?_,fun a ha b hb=>?_⟩
    ·exact (List.map_drop (f:=fun l:Ln=>l.c)) ▸ N.ndc.sublist (List.drop_sublist _ _)
    ·obtain ⟨l,hm,rfl⟩:=List.mem_map.mp ha
     obtain ⟨l',hm',rfl⟩:=List.mem_map.mp hb
     exact zal (M4 l hm).cs (N.fr l' (List.mem_of_mem_drop hm')).2
   ·rw [hsplit,List.map_append,hview,List.append_assoc]
    congr 1
    have:(ls.drop (M.length - t)).map (fun l=>(l.cells,l.wr))=List.replicate (rows - (M.length - t)) (zcP cols):=by
     apply List.eq_replicate_iff.mpr
     refine ⟨by rw [List.length_map,List.length_drop,lsl],fun b hb=>?_⟩
     obtain ⟨l,hm,rfl⟩:=List.mem_map.mp hb
     obtain ⟨c1,c2⟩:=N.cs l (List.mem_of_mem_drop hm)
     show (l.cells,l.wr)=_
     rw [c1,c2]; rfl
    rw [this,List.replicate_append_replicate,vl,znB hMl ht t3]
   ·rw [List.length_take_of_le tM,vl,ht]
   ·rw [List.length_append,List.length_drop,List.length_drop,lsl]; exact Nat.add_sub_cancel' t3
end
section
variable {W:Wx} {H:Hp} {s:Scr}
inductive PMg (rows cols:Nat) (H:Hp) (x:V) (H':Hp):Prop
 | mk (m:Nat) (e:x=.ref m) (f:H m=none) (h:H'=zab H m (.inst 1109 [(3,.int rows),(4,.int cols),(28,.int 0),(29,.int ((rows:Int) - 1)),(22,.int 0),(23,.int ((cols:Int) - 1))]))
theorem zji (rows cols:Nat):zae W 2 (.ref 1109) [.int rows,.int cols] H (PMg rows cols H):=by
 refine zbw (f:=994) (R:=PMg rows cols H) (by decide) fun m hm=>?_
 refine zmq _ _ _ ?_
 unfold zho
 walk_at "r"
 refine zaq zai rfl rfl ?_
 walk_at "r"
 refine zaq zai rfl rfl ?_
 walk_at "r"
 refine zaq zai rfl rfl ?_
 walk_at "r"
 refine zaq zai rfl rfl ?_
 walk_at "r"
 refine zaq zai rfl rfl ?_
 walk_at "r"
 refine zaq zai rfl rfl ?_
 rw [zaC,zaC,zaC,zaC,zaC,zaC]
 exact Run.nil ⟨rfl,m,rfl,hm,rfl⟩
theorem zi6 {tb sp:Nat} {cols b:Nat} (e:H tb=some (.inst 1208 [(4,.int cols),(30,.ref sp)])) (hc:cols≤7):zae W 1 (.ref 1134) [.ref tb,.int b] H (is .none H):=by
 refine zk6 _ _ ?_
 unfold zf8
 walk_at "r"
 refine Run.fr (l:=[]) (args:=[.int 8,.int cols,.int 8]) (J:=fun i ρ H'=>i=0∧H'=H) (Z:=fun _ _=>False) rfl rfl ⟨rfl,rfl⟩ (fun i ρ H' _ _=>⟨by exact lin (.L K0 (.k 8)) [] rfl,by exact lin (.L (.k 8) (.k 1000)) [] rfl,by exact zag (.L K0 (.c Va)) rfl,by exact zag (.i (.l Va (.k 7)) (.L (.c Va) (.k 8))) rfl hc,by exact lin (.T K0 (.k 8)) [] rfl,by exact lin (.L (.k 8) (.k 1000)) [] rfl,rfl⟩) (fun i x ρ H' hx=>by simp at hx) ?_ (fun _ _ z=>z.elim)
 rintro ρ H' ⟨_,rfl⟩
 exact Run.nil ⟨rfl,rfl⟩
theorem zpL {tb sp c0 cols:Nat} (e:H tb=some (.inst 1208 [(4,.int c0),(30,.ref sp)])) (es:H sp=some (.dict [])) (hc:cols≤7):zae W 3 (.ref 1198) [.ref tb,.int cols] H fun x H'=>x=.none∧H' tb=some (.inst 1208 [(4,.int cols),(30,.ref sp)])∧∀ y m,y≠tb→H y=some m→H' y=some m:=by
 refine zk8 _ _ ?_
 unfold zga
 walk_at "r"
 refine zaq e rfl rfl ?_
 have e1:zab H tb (.inst 1208 (zaF 4 (.int cols) [(4,.int c0),(30,.ref sp)])) tb=some (.inst 1208 [(4,.int cols),(30,.ref sp)]):=zai
 have es1:=zak es (zam es e rfl) (m':=.inst 1208 (zaF 4 (.int cols) [(4,.int c0),(30,.ref sp)]))
 have kp:∀ y m,y≠tb→H y=some m→zab H tb (.inst 1208 (zaF 4 (.int cols) [(4,.int c0),(30,.ref sp)])) y=some m:=fun y m q z=>zak z q
 generalize zab H tb (.inst 1208 (zaF 4 (.int cols) [(4,.int c0),(30,.ref sp)]))=H1 at *
 have told:zae W 1 (.ref 1169) [.ref tb] H1 (zd5 [] H1):=by
  refine zk7 _ ?_
  unfold zf9
  walk_at "r"
  refine zoq es1 fun c H' f g E=>?_
  exact Run.ret ⟨c,rfl,f,g,E⟩
 walk_at "r"
 refine zav (told.tu rfl) rfl ?_
 rintro _ H2 ⟨c,rfl,f,g,E⟩
 have e2:=E _ _ e1
 refine Run.fr (l:=[]) (args:=[.ref c]) (J:=fun i ρ H'=>i=0∧H'=H2∧ρ=[some (.ref tb),some (.int cols),some (.int c0),none]) (Z:=fun _ _=>False) rfl rfl ⟨rfl,rfl,rfl⟩ (fun i ρ H' _ hj=>by rw [hj.2.1]; exact g) (fun i x ρ H' hx=>by simp at hx) ?_ (fun _ _ z=>z.elim)
 rintro ρ H' ⟨_,rfl,rfl⟩
 have fin:∀ {ρ},Run W 2 [] [] ρ H' (zan fun x H'=>x=.none∧H' tb=some (.inst 1208 [(4,.int cols),(30,.ref sp)])∧∀ y m,y≠tb→H y=some m→H' y=some m):=fun {ρ}=>Run.nil ⟨rfl,e2,fun y m q z=>E _ _ (kp y m q z)⟩
 walk_at "r"
 by_cases q:c0 < cols
 ·refine r_t (decide_eq_true (zad (.i (.t Va Vb) (.T (.c Va) (.c Vb))) rfl q)) ?_
  walk_at "c"
  refine zas ((zi6 e2 hc).tu rfl) rfl ?_
  refine zat ?_
  walk_at "r"
  exact fin
 ·refine r_f (decide_eq_false (zad (.i (.n (.t Va Vb)) (.n (.T (.c Va) (.c Vb)))) rfl q)) ?_
  walk_at "c"
  exact fin
theorem zpW {i:Nat} {l:Ln} (h1:H s.sc=some (.inst 1485 s.scF)) (h2:H s.gr=some (.inst 396 s.grF)) (h3:H s.gl=some (.list (zah s.grid))) (hl:s.grid[i]?=some l) (ll:zaD H l) (hn:i≤900):zae W 2 (.ref 1242) [.ref s.sc,.int i] H (is (.int s.cols) H):=by
 refine zhS _ _ ?_
 unfold zex
 have h4:=ll.o
 unfold lf at h4
 have gl:zae W 1 (.ref 274) [.ref s.gr,.int i] H (is (.ref l.a) H):=by
  refine zhU _ _ ?_
  unfold zeB
  walk_at "r"
  refine zaB h3 (zag (.i (.l Va (.k 900)) (.A (.L (.g (.k 1000)) (.c Va)) (.L (.c Va) (.k 1000)))) rfl hn) (zbI hl) ?_
  exact Run.ret ⟨rfl,rfl⟩
 walk_at "r"
 refine zas (gl.tu rfl) rfl ?_
 refine zat ?_
 walk_at "r"
 refine ziI (l:=[S "wide",S "top",S "bottom"]) rfl ?_
 walk_at "r"
 exact Run.ret ⟨rfl,rfl⟩
theorem zpG {r0 c0:Nat} {w0:Bool} {l:Ln} (h1:H s.sc=some (.inst 1485 s.scF)) (h2:H s.gr=some (.inst 396 s.grF)) (h3:H s.gl=some (.list (zah s.grid))) (hc:H s.cu=some (.inst 976 { s with row:=r0,col:=c0,wait:=w0 }.cuF)) (hl:s.grid[s.row]?=some l) (ll:zaD H l) (hr:s.row < s.rows∧s.rows≤4) (hcc:s.col < s.cols) (hw:s.wait=false) :
  zae W 3 (.ref 1277) [.ref s.sc,.int s.row,.int s.col] H (is .none (zab H s.cu (.inst 976 s.cuF))):=by
 refine zlf _ _ _ ?_
 unfold zgh
 have h1':=h1
 unfold Scr.scF at h1'
 have hc':=hc
 unfold Scr.cuF at hc'
 walk_at "r"
 refine za0 ((zfE _ _ _).tu rfl) rfl ?_
 refine zat ?_
 rw [show max (0:Int) (min (s.row:Int) ((s.rows:Int) - 1))=(s.row:Int) by exact zad (.i (.A (.t Va Vb) (.l Vb (.k 4))) (.E (.M K0 (.m (.c Va) (.s (.c Vb) K1))) (.c Va))) rfl hr]
 walk_at "r"
 refine zaq hc' rfl rfl ?_
 have e0:zab H s.cu (.inst 976 (zaF 11 (.int s.row) [(11,.int r0),(12,.int c0),(13,.bool w0),(25,pn s.pen),(26,.bool false),(27,.bool false)]))=zab H s.cu (.inst 976 [(11,.int s.row),(12,.int c0),(13,.bool w0),(25,pn s.pen),(26,.bool false),(27,.bool false)]):=rfl
 have nn:∀ {m':MO} {y m},H y=some m→(m.kd == 979)=false→zab H s.cu m' y=some m:=fun z q=>zak z (zam z hc q)
 have a1:=nn (m':=.inst 976 [(11,.int s.row),(12,.int c0),(13,.bool w0),(25,pn s.pen),(26,.bool false),(27,.bool false)]) h1 rfl
 have a2:=nn (m':=.inst 976 [(11,.int s.row),(12,.int c0),(13,.bool w0),(25,pn s.pen),(26,.bool false),(27,.bool false)]) h2 rfl
 have a3:=nn (m':=.inst 976 [(11,.int s.row),(12,.int c0),(13,.bool w0),(25,pn s.pen),(26,.bool false),(27,.bool false)]) h3 rfl
 have a4:zaD (zab H s.cu (.inst 976 [(11,.int s.row),(12,.int c0),(13,.bool w0),(25,pn s.pen),(26,.bool false),(27,.bool false)])) l:=⟨nn ll.o rfl,nn ll.cs rfl⟩
 have a5:zab H s.cu (.inst 976 [(11,.int s.row),(12,.int c0),(13,.bool w0),(25,pn s.pen),(26,.bool false),(27,.bool false)]) s.cu=some (.inst 976 [(11,.int s.row),(12,.int c0),(13,.bool w0),(25,pn s.pen),(26,.bool false),(27,.bool false)]):=zai
 have a1':=a1
 unfold Scr.scF at a1'
 rw [e0]
 walk_at "r"
 refine zas ((zpW (W:=W) a1 a2 a3 hl a4 (zad (.i (.A (.t Va Vb) (.l Vb (.k 4))) (.l Va (.k 900))) rfl hr)).tu rfl) rfl ?_
 refine zat ?_
 walk_at "r"
 refine za0 ((zfE _ _ _).tu rfl) rfl ?_
 refine zat ?_
 rw [show max (0:Int) (min (s.col:Int) (max 0 ((s.cols:Int) - 1)))=(s.col:Int) by exact zad (.i (.t Va Vb) (.E (.M K0 (.m (.c Va) (.M K0 (.s (.c Vb) K1)))) (.c Va))) rfl hcc]
 walk_at "r"
 refine zaq a5 rfl rfl ?_
 rw [zaC]
 have a6:=nn (m':=.inst 976 (zaF 12 (.int s.col) [(11,.int s.row),(12,.int c0),(13,.bool w0),(25,pn s.pen),(26,.bool false),(27,.bool false)])) h1' rfl
 walk_at "r"
 refine zaq zai rfl rfl ?_
 rw [zaC]
 refine Run.nil ⟨rfl,?_⟩
 unfold Scr.cuF
 rw [hw]
 rfl
end
noncomputable def Scr.refit (s:Scr) (rows cols g gl h hl ma:Nat) (hist grid:List Ln) (r c:Nat) (w:Bool):Scr:={ s with hi:=h,hl:=hl,gr:=g,gl:=gl,ma:=ma,rows:=rows,cols:=cols,hist:=hist,grid:=grid,row:=r,col:=c,wait:=w }
theorem Is.refit {H0 H H':Hp} {s:Scr} {rows cols g gl h hl ma:Nat} {hist grid:List Ln} {r c:Nat} {w:Bool} {V:List (List zaa × Bool)} (I0:Is H0 s) (R:zdI rows cols H0 H g gl h hl hist grid V) (hV:∀ q ∈ V,q.1.length=cols) (hrows:1≤rows∧rows≤4) (hcols:2≤cols∧cols≤7) (hh:hist.length≤300) (hr:r < rows) (hc:c < cols)
  (k:∀ y m,H y=some m→y≠s.sc→y≠s.tb→y≠s.cu→H' y=some m) (osc:H' s.sc=some (.inst 1485 (s.refit rows cols g gl h hl ma hist grid r c w).scF)) (otb:H' s.tb=some (.inst 1208 [(4,.int cols),(30,.ref s.sp)])) (ocu:H' s.cu=some (.inst 976 (s.refit rows cols g gl h hl ma hist grid r c w).cuF)) (oma:H' ma=some (.inst 1109 (s.refit rows cols g gl h hl ma hist grid r c w).maF)) :
  Is H' (s.refit rows cols g gl h hl ma hist grid r c w):=by
 have I:=I0.ext R.ext
 have n:∀ {y m},H y=some m→(m.kd == 1488)=false→(m.kd == 1211)=false→(m.kd == 979)=false→H' y=some m:=fun z a b c=>k _ _ z (zam z I.sc a) (zam z I.tb b) (zam z I.cu c)
 refine ⟨osc,n R.og rfl rfl rfl,n R.ogl rfl rfl rfl,n R.oh rfl rfl rfl,n R.ohl rfl rfl rfl,ocu,oma,n I.ch rfl rfl rfl,I.md.imp (fun x=>n x rfl rfl rfl) fun ⟨x,a,b⟩=>⟨x,n a rfl rfl rfl,n b rfl rfl rfl⟩,n I.nm rfl rfl rfl,n I.mo rfl rfl rfl,n I.st rfl rfl rfl,n I.wt rfl rfl rfl,n I.wd rfl rfl rfl,n I.mkr rfl rfl rfl,otb,n I.sp rfl rfl rfl,
  fun l hl=>⟨n (R.at_ l hl).o rfl rfl rfl,n (R.at_ l hl).cs rfl rfl rfl⟩,fun l hm=>?_,?_,R.nda,R.ndc,I.ms,fun l hm=>?_,hrows,hcols,R.lg,hh,hr,hc⟩
 ·show l.c ∉ [gl,hl,s.nm,s.wd,s.mkr]
  obtain ⟨s1,s2⟩:=R.sep l hm
  have f:=(R.fr l hm).2
  simp only [List.mem_cons,List.not_mem_nil,or_false,not_or]
  exact ⟨s1,s2,(zal I0.nm f).symm,(zal I0.wd f).symm,(zal I0.mkr f).symm⟩
 ·show hl ∉ [gl,s.nm,s.wd,s.mkr]
  have f:=R.f0.2.2.2
  simp only [List.mem_cons,List.not_mem_nil,or_false,not_or]
  exact ⟨R.ne,(zal I0.nm f).symm,(zal I0.wd f).symm,(zal I0.mkr f).symm⟩
 ·have:(l.cells,l.wr) ∈ V++List.replicate (rows - V.length) (zcP cols):=by rw [← R.view]; exact List.mem_map.mpr ⟨l,hm,rfl⟩
  show l.cells.length=cols
  rcases List.mem_append.mp this with q | q
  ·exact hV _ q
  ·have:=(List.mem_replicate.mp q).2
   have e:=congrArg Prod.fst this
   show l.cells.length=cols
   rw [show l.cells=List.replicate cols zar from e]; simp
section
variable {W:Wx} {H H0:Hp} {s:Scr}
inductive PFt (s:Scr) (H0:Hp) (rows cols:Nat) (hist grid:List Ln) (r c:Nat) (w:Bool) (x:V) (H':Hp):Prop
 | mk (e:x=.none) (s':Scr) (I:Is H' s') (F:Frm s H0 s' H') (h1:s'.sc=s.sc) (h2:s'.rows=rows) (h3:s'.cols=cols) (h4:s'.pen=s.pen) (h5:s'.hist=hist) (h6:s'.grid=grid) (h7:s'.row=r) (h8:s'.col=c) (h9:s'.wait=w)
theorem zpf {rows cols g gl h hl:Nat} {hist grid:List Ln} {r c:Nat} {w:Bool} {V:List (List zaa × Bool)} (I0:Is H0 s) (R:zdI rows cols H0 H g gl h hl hist grid V) (hV:∀ q ∈ V,q.1.length=cols) (hrows:1≤rows∧rows≤4) (hcols:2≤cols∧cols≤7) (hh:hist.length≤300) (hr:r < rows) (hc:c < cols) (hw:w=true→c=cols - 1) :
  zae W 5 (.ref 1496) [.ref s.sc,.int rows,.int cols,.ref g,.tup [.int r,.int c,.bool w]] (zab H s.sc (.inst 1485 (zaF 33 (.ref h) s.scF))) (PFt s H0 rows cols hist grid r c w):=by
 refine zls _ _ _ _ _ ?_
 unfold zgu
 have J0:=I0.ext R.ext
 have i1:=J0.sc
 have n:∀ {y m},H y=some m→(m.kd == 1488)=false→zab H s.sc (.inst 1485 (zaF 33 (.ref h) s.scF)) y=some m:=fun z a=>zak z (zam z i1 a)
 refine Run.loc rfl (Run.loc rfl (zaq zai rfl rfl ?_))
 refine Run.loc rfl (Run.loc rfl (zaq zai rfl rfl ?_))
 refine Run.loc rfl (Run.loc rfl (zaq zai rfl rfl ?_))
 rw [zaC,zaC,zaC]
 have e0:∀ m,m=MO.inst 1485 [(3,.int rows),(4,.int cols),(31,.ref s.mo),(32,.ref s.wt),(33,.ref h),(34,.ref g),(35,.ref s.cu),(36,.ref s.ma),(37,.ref s.tb),(38,.ref s.ch),(39,.none),(40,.ref s.la),(41,.bool false)]→zab H s.sc m=zab H s.sc (.inst 1485 [(3,.int rows),(4,.int cols),(31,.ref s.mo),(32,.ref s.wt),(33,.ref h),(34,.ref g),(35,.ref s.cu),(36,.ref s.ma),(37,.ref s.tb),(38,.ref s.ch),(39,.none),(40,.ref s.la),(41,.bool false)]):=fun m q=>by rw [q]
 rw [e0]
 rotate_left
 ·rfl
 generalize hH1:zab H s.sc (.inst 1485 [(3,.int rows),(4,.int cols),(31,.ref s.mo),(32,.ref s.wt),(33,.ref h),(34,.ref g),(35,.ref s.cu),(36,.ref s.ma),(37,.ref s.tb),(38,.ref s.ch),(39,.none),(40,.ref s.la),(41,.bool false)])=H1
 have o1:H1 s.sc=some (.inst 1485 [(3,.int rows),(4,.int cols),(31,.ref s.mo),(32,.ref s.wt),(33,.ref h),(34,.ref g),(35,.ref s.cu),(36,.ref s.ma),(37,.ref s.tb),(38,.ref s.ch),(39,.none),(40,.ref s.la),(41,.bool false)]):=by rw [← hH1]; exact zai
 have k1:∀ y m,H y=some m→y≠s.sc→H1 y=some m:=fun y m z q=>by rw [← hH1]; exact zak z q
 clear hH1
 refine Run.lit (Run.loc rfl (Run.loc rfl ?_))
 refine zas ((zji rows cols).tu rfl) rfl ?_
 rintro _ _ ⟨ma,rfl,fma,rfl⟩
 refine Run.loc rfl (zaq (zak o1 (zal o1 fma)) rfl rfl ?_)
 generalize hH2:zab (zab H1 ma _) s.sc _=H2
 have nma:ma≠s.sc:=(zal o1 fma).symm
 have o2:H2 s.sc=some (.inst 1485 [(3,.int rows),(4,.int cols),(31,.ref s.mo),(32,.ref s.wt),(33,.ref h),(34,.ref g),(35,.ref s.cu),(36,.ref ma),(37,.ref s.tb),(38,.ref s.ch),(39,.none),(40,.ref s.la),(41,.bool false)]):=by rw [← hH2]; exact zai
 have m2:H2 ma=some (.inst 1109 [(3,.int rows),(4,.int cols),(28,.int 0),(29,.int ((rows:Int) - 1)),(22,.int 0),(23,.int ((cols:Int) - 1))]):=by rw [← hH2]; exact zak zai nma
 have k2:∀ y m,H y=some m→y≠s.sc→H2 y=some m:=fun y m z q=>by rw [← hH2]; exact zak (zak (k1 y m z q) (zal (k1 y m z q) fma)) q
 have fmaH:H ma=none:=by
  induction z:H ma with
  | none=>rfl
  | some m=>rw [k1 _ _ z nma] at fma; injection fma
 clear hH2
 have tb2:=k2 _ _ J0.tb (zam J0.tb i1 rfl)
 have sp2:=k2 _ _ J0.sp (zam J0.sp i1 rfl)
 unfold Scr.tbF at tb2
 walk_at "r"
 refine zas ((zpL tb2 sp2 hcols.2).tu rfl) rfl ?_
 rintro _ H3 ⟨rfl,tb3,k3⟩
 obtain ⟨s2,hs2⟩:∃ s2,s2=s.refit rows cols g gl h hl ma hist grid r c false:=⟨_,rfl⟩
 have o3:H3 s.sc=some (.inst 1485 s2.scF):=by rw [k3 _ _ (zam o2 tb2 rfl) o2,hs2]; rfl
 have m3:H3 ma=some (.inst 1109 s2.maF):=by rw [k3 _ _ (zam m2 tb2 rfl) m2,hs2]; rfl
 have kk:∀ y m,H y=some m→y≠s.sc→y≠s.tb→H3 y=some m:=fun y m z q1 q2=>k3 _ _ q2 (k2 _ _ z q1)
 have g3:H3 s2.gr=some (.inst 396 s2.grF):=by rw [hs2]; exact kk _ _ R.og (zam R.og i1 rfl) (zam R.og J0.tb rfl)
 have gl3:H3 s2.gl=some (.list (zah s2.grid)):=by rw [hs2]; exact kk _ _ R.ogl (zam R.ogl i1 rfl) (zam R.ogl J0.tb rfl)
 have cu3:H3 s2.cu=some (.inst 976 { s2 with row:=s.row,col:=s.col,wait:=s.wait }.cuF):=by rw [hs2]; exact kk _ _ J0.cu (zam J0.cu i1 rfl) (zam J0.cu J0.tb rfl)
 obtain ⟨l,hl'⟩:∃ l,s2.grid[s2.row]?=some l:=by rw [hs2]; exact ⟨_,List.getElem?_eq_getElem (show r < grid.length by rw [R.lg]; exact hr)⟩
 have ll3:zaD H3 l:=by
  have lm:l ∈ hist++grid:=by rw [hs2] at hl'; exact List.mem_append_right _ (List.mem_of_getElem? hl')
  have z:=R.at_ l lm
  exact ⟨kk _ _ z.o (zam z.o i1 rfl) (zam z.o J0.tb rfl),kk _ _ z.cs (zam z.cs i1 rfl) (zam z.cs J0.tb rfl)⟩
 have e1:s2.sc=s.sc:=by rw [hs2]; rfl
 have e2:s2.row=r:=by rw [hs2]; rfl
 have e3:s2.col=c:=by rw [hs2]; rfl
 have e4:s2.rows=rows:=by rw [hs2]; rfl
 have e5:s2.cols=cols:=by rw [hs2]; rfl
 have e6:s2.cu=s.cu:=by rw [hs2]; rfl
 have o3s:H3 s2.sc=some (.inst 1485 s2.scF):=by rw [e1]; exact o3
 have pl:=zpG (W:=W) o3s g3 gl3 cu3 hl' ll3 (by rw [e2,e4]; exact zad (.i (.A (.l K1 Va) (.l Va (.k 4))) (.i (.t Vb Va) (.A (.t Vb Va) (.l Va (.k 4))))) rfl hrows hr) (by rw [e3,e5]; exact hc) (by rw [hs2]; rfl)
 rw [e1,e2,e3,e6] at pl
 have o3':=o3
 unfold Scr.scF at o3'
 walk_at "r"
 refine za0 (pl.tu rfl) rfl ?_
 refine zat ?_
 have cu3':H3 s.cu=some (.inst 976 { s2 with row:=s.row,col:=s.col,wait:=s.wait }.cuF):=by rw [← e6]; exact cu3
 have k4:∀ y m,H3 y=some m→y≠s.cu→zab H3 s.cu (.inst 976 s2.cuF) y=some m:=fun y m z q=>zak z q
 have o4:zab H3 s.cu (.inst 976 s2.cuF) s.cu=some (.inst 976 s2.cuF):=zai
 generalize zab H3 s.cu (.inst 976 s2.cuF)=H4 at *
 have sc4:=k4 _ _ o3 (zam o3 cu3' rfl)
 have tb4:=k4 _ _ tb3 (zam tb3 cu3' rfl)
 have ma4:=k4 _ _ m3 (zam m3 cu3' rfl)
 have K4:∀ y m,H y=some m→y≠s.sc→y≠s.tb→y≠s.cu→H4 y=some m:=fun y m z q1 q2 q3=>k4 _ _ (kk y m z q1 q2) q3
 have I4:Is H4 s2:=by
  rw [hs2] at sc4 o4 ma4 ⊢
  exact I0.refit R hV hrows hcols hh hr hc K4 sc4 tb4 o4 ma4
 have Fr:∀ {H5:Hp} {w':Bool},(∀ y m,H4 y=some m→y≠s.cu→H5 y=some m)→Frm s H0 (s.refit rows cols g gl h hl ma hist grid r c w') H5:=fun {H5 w'} k5=>by
  refine ⟨fun y m z q=>?_,fun y hy=>?_⟩
  ·have q1:y≠s.sc:=fun e=>q (e ▸ ze3 s)
   have q2:y≠s.cu:=fun e=>q (e ▸ zcs s)
   have q3:y≠s.tb:=fun e=>q (by rw [e]; unfold Scr.foot; simp)
   exact k5 _ _ (K4 _ _ (R.ext _ _ z) q1 q3 q2) q2
  ·unfold Scr.foot at hy ⊢
   unfold Scr.refit Scr.all at hy
   simp only [List.mem_append,List.mem_cons,List.not_mem_nil,or_false] at hy ⊢
   rcases hy with (rfl | rfl | rfl | rfl | rfl | rfl) | hy | hy
   ·exact .inl (.inl (.inl rfl))
   ·exact .inl (.inl (.inr (.inl rfl)))
   ·exact .inl (.inl (.inr (.inr (.inl rfl))))
   ·exact .inr R.f0.1
   ·exact .inr R.f0.2.2.2
   ·exact .inl (.inl (.inr (.inr (.inr (.inr (.inr rfl))))))
   ·obtain ⟨l,hm,rfl⟩:=List.mem_map.mp hy
    exact .inr (R.fr l hm).1
   ·obtain ⟨l,hm,rfl⟩:=List.mem_map.mp hy
    exact .inr (R.fr l hm).2
 have c4:=o4
 unfold Scr.cuF at c4
 have sc4':=sc4
 unfold Scr.scF at sc4'
 rw [e6] at sc4'
 have last:∀ {w':Bool} {ρ:Ro} {k:List I},w'=w→ρ[0]?=some (some (.ref s.sc))→Run W 4 [I.loc 0,.attr 35,.sattr 13] [.bool w'] ρ H4 (zan (PFt s H0 rows cols hist grid r c w)):=by
  intro w' ρ k ew hρ
  subst ew
  refine Run.loc hρ ?_
  walk_at "r1"
  refine zaq o4 rfl rfl ?_
  have I5:=I4.setCu s2.row s2.col w' s2.pen (by rw [e2,e4]; exact hr) (by rw [e3,e5]; exact hc)
  have es:({ s2 with row:=s2.row,col:=s2.col,wait:=w',pen:=s2.pen }:Scr)=s.refit rows cols g gl h hl ma hist grid r c w':=by rw [hs2]; rfl
  rw [es,e6] at I5
  have em:zaF 13 (.bool w') s2.cuF=(s.refit rows cols g gl h hl ma hist grid r c w').cuF:=by rw [hs2]; rfl
  rw [em]
  exact Run.nil ⟨rfl,_,I5,Fr fun y m z q=>zak z q,rfl,rfl,rfl,rfl,rfl,rfl,rfl,rfl,rfl⟩
 refine Run.pop (Run.loc rfl (Run.chk ?_))
 induction hw':w with
 | false =>
  rw [hw'] at last
  refine r_f rfl ?_
  refine Run.lit ?_
  exact last (k:=[]) rfl rfl
 | true =>
  rw [hw'] at last
  have hc1:=hw hw'
  refine r_t rfl ?_
  walk_at "c"
  rw [e3]
  refine r_t (by simp) ?_
  walk_at "c"
  refine zav ((show zae W 3 (.ref 1249) [.ref s.sc] H4 (is (.int ((s2.cols:Int) - 1)) H4) by rw [← e1]; exact zdA I4).tu rfl) rfl ?_
  refine zat ?_
  refine zdv (Run.chk ?_)
  exact last (k:=[]) (by rw [e5,beq_iff_eq]; exact zad (.i (.A (.l K2 Va) (.l Va (.k 7))) (.i (.e Vb (.s Va K1)) (.E (.c Vb) (.s (.c Va) K1)))) rfl hcols hc1) rfl
end
noncomputable abbrev TX:=List (List zaa) × List zaa
noncomputable def sgn (e:Nat × Nat):zaa:=⟨[e.1],if 19968≤e.1 then 2 else 1,e.2⟩
noncomputable def zdo (t:List zaa):List zaa:=match t.reverse with | []=>[] | c::r=>r.reverse++[mkC c]
noncomputable def zci (x:TX) (e:Nat × Nat):TX:=if e.1=0 then (x.1++[x.2],[]) else if e.1=769 then (x.1,zdo x.2) else (x.1,x.2++[sgn e])
noncomputable def zaK (st:List (Nat × Nat)):TX:=st.foldl zci ([],[])
noncomputable def zay (cols:Nat) (x:TX):TS:=(x.1.flatMap (fun u=>zap (cut cols u))++(cut cols x.2).1.map (fun p=>(p,true)),(cut cols x.2).2)
theorem zd1 (t:List zaa) (c:zaa):zdo (t++[c])=t++[mkC c]:=by unfold zdo; simp
theorem zks (cols:Nat) (g:Gp) (c:zaa):∃ q,(zaJ cols g c).2=q++[c]∧(zaJ cols g (mkC c))=((zaJ cols g c).1,q++[mkC c]):=by
 unfold zaJ
 have e:(mkC c).w=c.w:=rfl
 rw [e]
 split
 ·exact ⟨g.2,rfl,rfl⟩
 ·exact ⟨[],rfl,rfl⟩
theorem zmD (cols:Nat) (x:TX) (e:Nat × Nat):zay cols (zci x e)=zcx cols (zay cols x) e:=by
 obtain ⟨D,t⟩:=x
 unfold zci zcx
 split
 ·unfold zay nlT zap
  simp [cut,List.flatMap_append]
 ·split
  ·rcases List.eq_nil_or_concat t with rfl | ⟨u,c,rfl⟩
   ·rfl
   ·rw [List.concat_eq_append]
    unfold zay
    dsimp only
    rw [zd1,zcc,zcc]
    obtain ⟨q,h1,h2⟩:=zks cols (cut cols u) c
    rw [h1,h2,zih]
  ·unfold zay
   dsimp only
   rw [zcc]
   show _=zbC cols _ (sgn e)
   generalize sgn e=c
   unfold zaJ zbC
   dsimp only
   by_cases q:(zac (cut cols t).2).length+c.w≤cols
   ·rw [if_pos q,if_pos q]
   ·rw [if_neg q,if_neg q]; simp
structure OkG (cols:Nat) (g:Gp):Prop where
 len:∀ p ∈ g.ps,(zac p).length≤cols
 go:∀ i p,g.1[i]?=some p→p≠[]∧∃ p',g.ps[i+1]?=some p'∧((zac p).length=cols∨((zac p).length+1=cols∧∃ c t,p'=c::t∧c.w=2))
theorem zm3 {cols:Nat} (hc:2≤cols) {g:Gp} {c:zaa} (h:OkG cols g) (hw:Sw c):OkG cols (zaJ cols g c):=by
 have cw:=zbR hw
 unfold zaJ
 split
 ·rename_i hf
  refine ⟨fun p hp=>?_,fun i p hi=>?_⟩
  ·unfold Gp.ps at hp
   rcases List.mem_append.mp hp with hp | hp
   ·exact h.len p (by unfold Gp.ps; exact List.mem_append_left _ hp)
   ·rw [List.mem_singleton.mp hp,zaW,za1,List.length_append,zbF hw]; exact hf
  ·obtain ⟨ne,p',hp',alt⟩:=h.go i p hi
   have lt:i < g.1.length:=(List.getElem?_eq_some_iff.mp hi).1
   refine ⟨ne,?_⟩
   unfold Gp.ps at hp' ⊢
   dsimp only at hi ⊢
   by_cases q:i+1 < g.1.length
   ·rw [List.getElem?_append_left q] at hp' ⊢
    exact ⟨p',hp',alt⟩
   ·have e:i+1=g.1.length:=by exact zad (.i (.t Va Vb) (.i (.n (.t (.a Va K1) Vb)) (.e (.a Va K1) Vb))) rfl lt q
    rw [e,List.getElem?_append_right (Nat.le_refl _),Nat.sub_self] at hp'
    rw [e,List.getElem?_append_right (Nat.le_refl _),Nat.sub_self]
    have:g.2=p':=Option.some.inj hp'
    refine ⟨g.2++[c],rfl,?_⟩
    rcases alt with a | ⟨a,c0,t0,b,d⟩
    ·exact .inl a
    ·rw [← this] at b; exact .inr ⟨a,c0,t0++[c],by rw [b]; rfl,d⟩
 ·rename_i hf
  have gl:(zac g.2).length≤cols:=h.len g.2 (by unfold Gp.ps; simp)
  refine ⟨fun p hp=>?_,fun i p hi=>?_⟩
  ·unfold Gp.ps at hp
   rcases List.mem_append.mp hp with hp | hp
   ·exact h.len p hp
   ·rw [List.mem_singleton.mp hp,za1,zbF hw]; exact zad (.i (.l K2 Va) (.i (.A (.l K1 Vb) (.l Vb K2)) (.l Vb Va))) rfl hc cw
  ·dsimp only at hi
   by_cases q:i < g.1.length
   ·rw [List.getElem?_append_left q] at hi
    obtain ⟨ne,p',hp',alt⟩:=h.go i p hi
    refine ⟨ne,p',?_,alt⟩
    unfold Gp.ps at hp' ⊢
    dsimp only
    rw [List.getElem?_append_left (by simp; exact zad (.i (.t Va Vb) (.t Va Vb)) rfl q)]; exact hp'
   ·rw [List.getElem?_append_right (by exact zad (.i (.n (.t Va Vb)) (.l Vb Va)) rfl q)] at hi
    have:i=g.1.length:=by have:=(List.getElem?_eq_some_iff.mp hi).1; simp at this; exact zad (.i (.n (.t Va Vb)) (.i (.e (.s Va Vb) K0) (.e Va Vb))) rfl q this
    subst this
    rw [Nat.sub_self] at hi
    have:g.2=p:=Option.some.inj hi
    subst this
    refine ⟨fun z=>by rw [z] at hf; simp [zac] at hf; exact zad (.i (.l K2 Va) (.i (.A (.l K1 Vb) (.l Vb K2)) (.n (.t Va Vb)))) rfl hc cw hf,[c],?_,?_⟩
    ·unfold Gp.ps; dsimp only; rw [List.getElem?_append_right (by simp)]; simp
    ·rcases hw with w | w
     ·exact .inl (zaj (.i (.n (.l (.a Va Vb) Vc)) (.i (.l Va Vc) (.i (.e Vb K1) (.e Va Vc)))) rfl hf gl w)
     ·by_cases z:(zac g.2).length=cols
      ·exact .inl z
      ·exact .inr ⟨by exact zaj (.i (.A (.l K1 Va) (.l Va K2)) (.i (.n (.l (.a Vb Va) Vc)) (.i (.l Vb Vc) (.i (.n (.e Vb Vc)) (.e (.a Vb K1) Vc))))) rfl cw hf gl z,c,[],rfl,w⟩
theorem zfm {cols:Nat} (hc:2≤cols) (u:List zaa) (hu:∀ c ∈ u,Sw c):OkG cols (cut cols u):=by
 have:∀ (v:List zaa) (g:Gp),OkG cols g→(∀ c ∈ v,Sw c)→OkG cols (v.foldl (zaJ cols) g):=by
  intro v
  induction v with
  | nil=>intro g h _; exact h
  | cons c v ih=>intro g h hv; exact ih _ (zm3 hc h (hv c (by simp))) fun y hy=>hv y (by simp [hy])
 exact this u ([],[]) ⟨by intro p hp; unfold Gp.ps at hp; simp at hp; subst hp; exact Nat.zero_le _,by intro i p hi; simp at hi⟩ hu
theorem zc5 (cols:Nat) (u:List zaa):(cut cols u).text=u:=by
 have:∀ (v:List zaa) (g:Gp),(v.foldl (zaJ cols) g).text=g.text++v:=by
  intro v
  induction v with
  | nil=>intro g; simp
  | cons c v ih =>
   intro g
   rw [List.foldl_cons,ih]
   have:(zaJ cols g c).text=g.text++[c]:=by
    unfold zaJ Gp.text Gp.ps
    split <;> simp
   rw [this]; simp
 exact this u ([],[])
theorem ziy {cols:Nat}:∀ (G:List Gp),(∀ g ∈ G,OkG cols g)→(∀ g ∈ G,∀ c ∈ g.text,Sg c)→zdc cols (G.flatMap zap)
 | [],_,_=>⟨by simp,by simp,by simp⟩
 | g::G,h,hs=>by
  have ih:=ziy G (fun x hx=>h x (by simp [hx])) fun x hx=>hs x (by simp [hx])
  have hg:=h g (by simp)
  have pm:∀ p ∈ zap g,p.1 ∈ g.ps:=fun p hp=>by
   unfold zap at hp; unfold Gp.ps
   rcases List.mem_append.mp hp with hp | hp
   ·obtain ⟨x,hx,rfl⟩:=List.mem_map.mp hp; exact List.mem_append_left _ hx
   ·rw [List.mem_singleton.mp hp]; simp
  rw [List.flatMap_cons]
  refine ⟨fun p hp=>?_,fun p hp c hc=>?_,fun i p hi=>?_⟩
  ·rcases List.mem_append.mp hp with hp | hp
   ·exact hg.len _ (pm p hp)
   ·exact ih.len p hp
  ·rcases List.mem_append.mp hp with hp | hp
   ·exact hs g (by simp) c (List.mem_flatten.mpr ⟨p.1,pm p hp,hc⟩)
   ·exact ih.sg p hp c hc
  ·have ll:(zap g).length=g.1.length+1:=by simp [zap]
   by_cases q:i < g.1.length
   ·rw [List.getElem?_append_left (by exact zaj (.i (.e Va (.a Vb K1)) (.i (.t Vc Vb) (.t Vc Va))) rfl ll q)] at hi
    obtain ⟨b,hb⟩:∃ b,g.1[i]?=some b:=⟨_,List.getElem?_eq_getElem q⟩
    rw [zcI hb] at hi
    have:b=p:=congrArg Prod.fst (Option.some.inj hi)
    subst this
    obtain ⟨ne,p',hp',alt⟩:=hg.go i b hb
    refine ⟨ne,?_⟩
    by_cases q2:i+1 < g.1.length
    ·unfold Gp.ps at hp'
     rw [List.getElem?_append_left q2] at hp'
     exact ⟨(p',true),by rw [List.getElem?_append_left (by exact zaj (.i (.e Va (.a Vb K1)) (.i (.t Vc Vb) (.t (.a Vc K1) Va))) rfl ll q)]; exact zcI hp',alt⟩
    ·have e:i+1=g.1.length:=by exact zad (.i (.t Va Vb) (.i (.n (.t (.a Va K1) Vb)) (.e (.a Va K1) Vb))) rfl q q2
     unfold Gp.ps at hp'
     rw [List.getElem?_append_right (by exact zad (.i (.n (.t (.a Va K1) Vb)) (.l Vb (.a Va K1))) rfl q2),e,Nat.sub_self] at hp'
     have:g.2=p':=Option.some.inj hp'
     exact ⟨(g.2,false),by rw [List.getElem?_append_left (by exact zaj (.i (.e Va (.a Vb K1)) (.i (.t Vc Vb) (.t (.a Vc K1) Va))) rfl ll q),e]; exact zdn,by rw [this]; exact alt⟩
   ·by_cases q2:i=g.1.length
    ·rw [List.getElem?_append_left (by exact zaj (.i (.e Va (.a Vb K1)) (.i (.e Vc Vb) (.t Vc Va))) rfl ll q2),q2,zdn] at hi
     cases hi
    ·rw [List.getElem?_append_right (by exact zaj (.i (.e Va (.a Vb K1)) (.i (.n (.t Vc Vb)) (.i (.n (.e Vc Vb)) (.l Va Vc)))) rfl ll q q2)] at hi
     obtain ⟨ne,p',hp',alt⟩:=ih.go _ p hi
     refine ⟨ne,p',?_,alt⟩
     rw [List.getElem?_append_right (by exact zaj (.i (.e Va (.a Vb K1)) (.i (.n (.t Vc Vb)) (.l Va (.a Vc K1)))) rfl ll q),← hp']
     congr 1; exact zaj (.i (.e Va (.a Vb K1)) (.i (.n (.t Vc Vb)) (.i (.n (.e Vc Vb)) (.e (.s (.a Vc K1) Va) (.a (.s Vc Va) K1))))) rfl ll q q2
noncomputable def zaU (D:List (List zaa)):Nat:=(D.map List.length).sum+D.length
structure OkX (n:Nat) (x:TX):Prop where
 d:∀ u ∈ x.1,∀ c ∈ u,Sg c∧c.cs.length≤n+1
 t:∀ c ∈ x.2,Sg c∧c.cs.length≤n+1
 sz:zaU x.1+x.2.length≤n
theorem zh9 {l:List Nat} {a:Nat} (h:a ∈ l):a≤l.sum:=by
 induction l with
 | nil=>cases h
 | cons b l ih =>
  rw [List.sum_cons]
  rcases List.mem_cons.mp h with rfl | h
  ·exact zad (.l Va (.a Va Vb)) rfl
  ·have:=ih h; exact zaj (.i (.l Va Vb) (.l Va (.a Vc Vb))) rfl this
theorem zfz (D:List (List zaa)) (t:List zaa):zaU (D++[t])=zaU D+(t.length+1):=by
 unfold zaU; simp; exact zaj (.e (.a (.a Va Vb) (.a Vc K1)) (.a (.a Va Vc) (.a Vb K1))) rfl
theorem zm4 {n:Nat} {x:TX} {e:Nat × Nat} (h:OkX n x) (he:e.1≠0→e.1≠769→True):OkX (n+1) (zci x e):=by
 obtain ⟨h1,h2,h3⟩:=h
 have up:∀ c:zaa,Sg c∧c.cs.length≤n+1→Sg c∧c.cs.length≤n+1+1:=fun c hc=>⟨hc.1,by exact zad (.i (.l Va (.a Vb K1)) (.l Va (.a (.a Vb K1) K1))) rfl hc.2⟩
 unfold zci
 split
 ·refine ⟨fun u hu c hc=>?_,by simp,by rw [zfz]; simp; exact zaj (.i (.l (.a Va Vb) Vc) (.l (.a Va (.a Vb K1)) (.a Vc K1))) rfl h3⟩
  rcases List.mem_append.mp hu with hu | hu
  ·exact up c (h1 u hu c hc)
  ·rw [List.mem_singleton.mp hu] at hc; exact up c (h2 c hc)
 ·split
  ·refine ⟨fun u hu c hc=>up c (h1 u hu c hc),fun c hc=>?_,?_⟩
   ·dsimp only at hc
    rcases List.eq_nil_or_concat x.2 with e0 | ⟨u,c0,e0⟩
    ·rw [e0] at hc; simp [zdo] at hc
    ·rw [List.concat_eq_append] at e0
     rw [e0,zd1] at hc
     rcases List.mem_append.mp hc with hc | hc
     ·exact up c (h2 c (by rw [e0]; simp [hc]))
     ·rw [List.mem_singleton.mp hc]
      have:=h2 c0 (by rw [e0]; simp)
      exact ⟨⟨this.1.1,by simp [mkC]⟩,by simp [mkC]; exact this.2⟩
   ·dsimp only
    rcases List.eq_nil_or_concat x.2 with e0 | ⟨u,c0,e0⟩
    ·rw [e0] at h3 ⊢; simp [zdo] at h3 ⊢; exact zad (.i (.l Va Vb) (.l Va (.a Vb K1))) rfl h3
    ·rw [List.concat_eq_append] at e0
     rw [e0] at h3 ⊢
     rw [zd1]
     simp at h3 ⊢; exact zaj (.i (.l (.a Va (.a Vb K1)) Vc) (.l (.a Va (.a Vb K1)) (.a Vc K1))) rfl h3
  ·refine ⟨fun u hu c hc=>up c (h1 u hu c hc),fun c hc=>?_,by simp; exact zaj (.i (.l (.a Va Vb) Vc) (.l (.a Va (.a Vb K1)) (.a Vc K1))) rfl h3⟩
   rcases List.mem_append.mp hc with hc | hc
   ·exact up c (h2 c hc)
   ·rw [List.mem_singleton.mp hc]
    unfold sgn
    exact ⟨⟨by dsimp only; split <;> simp,by simp⟩,by simp⟩
theorem zdq (st:List (Nat × Nat)):OkX st.length (zaK st):=by
 have:∀ (st:List (Nat × Nat)) (x:TX) (n:Nat),OkX n x→OkX (n+st.length) (st.foldl zci x):=by
  intro st
  induction st with
  | nil=>intro x n h; exact h
  | cons e st ih=>intro x n h; rw [List.foldl_cons,List.length_cons,show n+(st.length+1)=(n+1)+st.length by exact zad (.e (.a Va (.a Vb K1)) (.a (.a Va K1) Vb)) rfl]; exact ih _ _ (zm4 h fun _ _=>trivial)
 have:=this st ([],[]) 0 ⟨by simp,by simp,by simp [zaU]⟩
 rwa [Nat.zero_add] at this
theorem zdQ (cols:Nat) (u:List zaa):(cut cols u).1.length≤u.length:=by
 have:∀ (v:List zaa) (g:Gp),(v.foldl (zaJ cols) g).1.length≤g.1.length+v.length:=by
  intro v
  induction v with
  | nil=>intro g; simp
  | cons c v ih =>
   intro g
   rw [List.foldl_cons]
   refine Nat.le_trans (ih _) ?_
   unfold zaJ
   split <;> simp <;> exact zad (.l (.a (.a Va K1) Vb) (.a Va (.a Vb K1))) rfl
 simpa [cut] using this u ([],[])
theorem zh7 (cols:Nat) (D:List (List zaa)):(D.flatMap (fun u=>zap (cut cols u))).length≤zaU D:=by
 induction D with
 | nil=>simp
 | cons u D ih =>
  have:=zdQ cols u
  have e:zaU (u::D)=zaU D+(u.length+1):=by unfold zaU; simp; exact zaj (.e (.a (.a Va Vb) (.a Vc K1)) (.a (.a Vb Vc) (.a Va K1))) rfl
  rw [List.flatMap_cons,List.length_append,e]
  have:(zap (cut cols u)).length=(cut cols u).1.length+1:=by simp [zap]
  lia
theorem zfb {cols n:Nat} {x:TX} (h:OkX n x):(zay cols x).1.length≤n:=by
 have:=zh7 cols x.1
 have h2:=zdQ cols x.2
 have h3:=h.sz
 unfold zay
 simp only [List.length_append,List.length_map]; exact za6 (.i (.l Va Vb) (.i (.l Vc Vd) (.i (.l (.a Vb Vd) Ve) (.l (.a Va Vc) Ve)))) rfl this h2 h3
theorem zh6 {cols n:Nat} {x:TX} (h:OkX n x):∀ c ∈ (zay cols x).2,Sg c∧c.cs.length≤n+1:=fun c hc=>by
 refine h.t c ?_
 rw [← zc5 cols x.2]
 unfold Gp.text Gp.ps
 exact List.mem_flatten.mpr ⟨_,List.mem_append_right _ (List.mem_singleton.mpr rfl),hc⟩
noncomputable def za8 (cols m:Nat) (x:TX):List Gp:=(x.1++[x.2]).map (cut cols)++List.replicate m ([],[])
theorem zhJ (cols:Nat) (D:List (List zaa)):(D.map (cut cols)).flatMap zap=D.flatMap (fun u=>zap (cut cols u)):=by
 induction D with
 | nil=>rfl
 | cons u D ih=>simp [ih]
theorem zkZ (cols m:Nat) (x:TX):(za8 cols m x).flatMap zap=(zay cols x).1++[((zay cols x).2,false)]++List.replicate m ([],false):=by
 unfold za8 zay
 rw [List.flatMap_append,zhJ,List.flatMap_append]
 have e:(List.replicate m (([],[]):Gp)).flatMap zap=List.replicate m ([],false):=by
  induction m with
  | zero=>rfl
  | succ m ih=>rw [List.replicate_succ,List.flatMap_cons,ih,List.replicate_succ]; rfl
 rw [e]
 simp [zap]
theorem zmC {H:Hp} {s:Scr} {x:TX} {n:Nat} (h:Is H s) (g:zaV s (zay s.cols x)) (hx:OkX n x) (hn:n≤60):zet s (za8 s.cols (s.rows - ((zay s.cols x).1.length+1)) x) x.1.length (cut s.cols x.2):=by
 have hcl:=h.cl
 have hrw:=h.rwb
 have sw:∀ u ∈ x.1++[x.2],∀ c ∈ u,Sg c:=fun u hu c hc=>by
  rcases List.mem_append.mp hu with hu | hu
  ·exact (hx.d u hu c hc).1
  ·rw [List.mem_singleton.mp hu] at hc; exact (hx.t c hc).1
 have hG:∀ g ∈ za8 s.cols (s.rows - ((zay s.cols x).1.length+1)) x,OkG s.cols g∧∃ u,g.text=u∧(u=[]∨u ∈ x.1++[x.2]):=fun g hg=>by
  unfold za8 at hg
  rcases List.mem_append.mp hg with hg | hg
  ·obtain ⟨u,hu,rfl⟩:=List.mem_map.mp hg
   exact ⟨zfm hcl.1 u fun c hc=>(sw u hu c hc).1,u,zc5 _ _,.inr hu⟩
  ·rw [(List.mem_replicate.mp hg).2]
   exact ⟨zfm (cols:=s.cols) hcl.1 [] (by simp),[],rfl,.inl rfl⟩
 have ll:=zfb (cols:=s.cols) hx
 have glen:(za8 s.cols (s.rows - ((zay s.cols x).1.length+1)) x).length=x.1.length+1+(s.rows - ((zay s.cols x).1.length+1)):=by unfold za8; simp; exact zaj (.e (.a Va (.a (.s Vb (.a Vc K1)) K1)) (.a (.a Va K1) (.s Vb (.a Vc K1)))) rfl
 have gat:(za8 s.cols (s.rows - ((zay s.cols x).1.length+1)) x)[x.1.length]?=some (cut s.cols x.2):=by
  unfold za8
  rw [List.getElem?_append_left (by simp),List.getElem?_map,List.getElem?_append_right (by exact zag (.l Va Va) rfl),Nat.sub_self]; rfl
 have goff:zaQ (za8 s.cols (s.rows - ((zay s.cols x).1.length+1)) x) x.1.length=(x.1.flatMap (fun u=>zap (cut s.cols u))).length:=by
  unfold zaQ za8
  rw [List.take_append_of_le_length (by simp),← List.map_take,List.take_left,zhJ]
 have xD:x.1.length≤n:=by have:=hx.sz; unfold zaU at this; exact zaG (.i (.l (.a (.a Va Vb) Vc) Vd) (.l Vb Vd)) rfl this
 obtain ⟨⟨lv,first,row,col,wait,plen,wf⟩,sg⟩:=g
 unfold TS.ls at lv first row col wait plen
 simp only [List.length_map] at lv first row col wait plen
 have szu:∀ u ∈ x.1++[x.2],u.length≤n:=fun u hu=>by
  have h3:=hx.sz
  rcases List.mem_append.mp hu with hu | hu
  ·have:u.length≤(x.1.map List.length).sum:=zh9 (List.mem_map_of_mem hu)
   unfold zaU at h3; exact za6 (.i (.l (.a (.a Va Vb) Vc) Vd) (.i (.l Ve Va) (.l Ve Vd))) rfl h3 this
  ·rw [List.mem_singleton.mp hu]; exact zaj (.i (.l (.a Va Vb) Vc) (.l Vb Vc)) rfl h3
 refine ⟨?_,ziy _ (fun g hg=>(hG g hg).1) (fun g hg c hc=>?_),fun g hg=>?_,⟨gat,?_,?_⟩,fun j g hj hg=>?_,fun z=>?_,?_,fun cols hc i=>?_⟩
 ·rw [lv,zkZ]
  unfold zaT
  simp only [List.map_append,List.map_map,List.map_cons,List.map_nil,List.map_replicate]
  congr 2
 ·obtain ⟨_,u,e,hu⟩:=hG g hg
  rw [e] at hc
  rcases hu with rfl | hu
  ·cases hc
  ·exact sw u hu c hc
 ·obtain ⟨_,u,e,hu⟩:=hG g hg
  rw [e]
  rcases hu with rfl | hu
  ·simp
  ·have:=szu u hu; exact zad (.i (.l Va (.k 60)) (.i (.l Vb Va) (.l Vb (.k 100)))) rfl hn this
 ·rw [goff,row]
  unfold zay
  simp
 ·show s.col+(if s.wait then 1 else 0)=(zac (zay s.cols x).2).length
  rw [wait]
  by_cases q:(zac (zay s.cols x).2).length=s.cols
  ·rw [if_pos (by rw [beq_iff_eq]; exact q)]; exact zaj (.i (.A (.l K2 Va) (.l Va (.k 7))) (.i (.e Vb (.m Vc (.s Va K1))) (.i (.e Vc Va) (.e (.a Vb K1) Vc)))) rfl hcl col q
  ·rw [if_neg (by rw [beq_iff_eq]; exact q)]; exact zaj (.i (.e Va (.m Vb (.s Vc K1))) (.i (.l Vb Vc) (.i (.n (.e Vb Vc)) (.e (.a Va K0) Vb)))) rfl col plen q
 ·unfold za8 at hg
  rw [List.getElem?_append_right (by simp; exact zad (.i (.t Va Vb) (.l (.a Va K1) Vb)) rfl hj),List.getElem?_replicate] at hg
  split at hg
  ·exact (Option.some.inj hg).symm
  ·injection hg
 ·exact za6 (.i (.e Va (.a (.a Vb K1) (.s Vc (.a Vd K1)))) (.i (.e Ve (.s (.a Vd K1) Vc)) (.i (.t (.a Vb K1) Va) (.e Ve K0)))) rfl glen first z
 ·have:=h.len
  exact zbO (.i (.l Va (.k 60)) (.i (.A (.l K1 Vb) (.l Vb (.k 4))) (.i (.l Vc Va) (.i (.e (.a Vd Ve) Vc) (.i (.e Vf (.a Vd Vb)) (.l Vf (.k 100))))))) rfl hn hrw ll row this
 ·have e:∀ (Gs:List Gp),(∀ g ∈ Gs,True)→(Gs.flatMap fun g=>zbX cols (cut cols g.text)).length≤zaU (Gs.map Gp.text):=by
   intro Gs _
   induction Gs with
   | nil=>simp
   | cons g Gs ih =>
    have i2:=ih fun _ _=>trivial
    have e2:zaU ((g::Gs).map Gp.text)=zaU (Gs.map Gp.text)+(g.text.length+1):=by unfold zaU; simp; exact zaj (.e (.a (.a Va Vb) (.a Vc K1)) (.a (.a Vb Vc) (.a Va K1))) rfl
    rw [List.flatMap_cons,List.length_append,e2,zjz]
    have:=zdQ cols g.text
    exact zaG (.i (.l Va Vb) (.i (.l Vc Vd) (.l (.a (.a Vc K1) Va) (.a Vb (.a Vd K1))))) rfl i2 this
  have e3:(zbd cols (za8 s.cols (s.rows - ((zay s.cols x).1.length+1)) x) i).length≤zaU ((za8 s.cols (s.rows - ((zay s.cols x).1.length+1)) x).map Gp.text):=by
   refine Nat.le_trans (Nat.le_trans ?_ (e _ fun _ _=>trivial)) (Nat.le_refl _)
   unfold zbd
   have:=congrArg (fun l:List Gp=>(l.flatMap fun g=>zbX cols (cut cols g.text)).length) (List.take_append_drop i (za8 s.cols (s.rows - ((zay s.cols x).1.length+1)) x))
   simp only [List.flatMap_append,List.length_append] at this
   exact zaj (.i (.e (.a Va Vb) Vc) (.l Va Vc)) rfl this
  have e4:(za8 s.cols (s.rows - ((zay s.cols x).1.length+1)) x).map Gp.text=(x.1++[x.2])++List.replicate (s.rows - ((zay s.cols x).1.length+1)) []:=by
   unfold za8
   rw [List.map_append,List.map_map,List.map_replicate]
   have:(Gp.text ∘ cut s.cols)=id:=by funext u; exact zc5 _ _
   rw [this,List.map_id]; rfl
  rw [e4] at e3
  have e5:∀ (A:List (List zaa)) (m:Nat),zaU (A++List.replicate m [])=zaU A+m:=by
   intro A m; unfold zaU; simp; exact zaj (.e (.a Va (.a Vb Vc)) (.a (.a Va Vb) Vc)) rfl
  rw [e5,zfz] at e3
  have:=hx.sz
  exact zbO (.i (.l Va (.k 60)) (.i (.A (.l K1 Vb) (.l Vb (.k 4))) (.i (.l Vc (.a (.a Vd (.a Ve K1)) (.s Vb (.a Vf K1)))) (.i (.l (.a Vd Ve) Va) (.l Vc (.k 400)))))) rfl hn hrw e3 this
theorem zqk {s:Scr} {cols:Nat} {x:TX} {m:Nat}:V1 cols (za8 s.cols m x) x.1.length (cut s.cols x.2)=zaT cols (zay cols x).ls:=by
 unfold V1 zbd zaT TS.ls zay za8 zbX
 rw [zc5]
 have e:((x.1++[x.2]).map (cut s.cols)++List.replicate m ([],[])).take x.1.length=x.1.map (cut s.cols):=by
  rw [List.take_append_of_le_length (by simp),← List.map_take,List.take_left]
 rw [e]
 have e2:∀ D:List (List zaa),(D.map (cut s.cols)).flatMap (fun g=>(zap (cut cols g.text)).map (fun q=>zaz cols (zac q.1,q.2)))=(D.flatMap (fun u=>zap (cut cols u))).map (fun q=>zaz cols (zac q.1,q.2)):=by
  intro D
  induction D with
  | nil=>rfl
  | cons u D ih=>simp only [List.map_cons,List.flatMap_cons,List.map_append,ih,zc5]
 rw [e2]
 simp [zap,Function.comp_def]
theorem zkY {H H':Hp} {s s':Scr} {x:TX} {n rows cols g gl h hl:Nat} {hist grid:List Ln} (hx:OkX n x) (hcols:2≤cols) (R:zdI rows cols H H' g gl h hl hist grid (zaT cols (zay cols x).ls)) (e1:s'.rows=rows) (e2:s'.cols=cols) (e3:s'.hist=hist) (e4:s'.grid=grid)
  (e5:s'.row=(zaT cols (zay cols x).ls).length - 1 - ((zaT cols (zay cols x).ls).length - rows)) (e6:s'.col=min (zac (zay cols x).2).length (cols - 1)) (e7:s'.wait=((zac (zay cols x).2).length == cols)) (hr:1≤rows) (hn:n≤400):zaV s' (zay cols x):=by
 have fl:(zaT cols (zay cols x).ls).length=(zay cols x).1.length+1:=by unfold zaT TS.ls; simp
 have sg:=zh6 (cols:=cols) hx
 refine ⟨⟨?_,?_,?_,?_,?_,?_,(zay cols x).2,rfl,fun c hc=>(sg c hc).1⟩,fun c hc=>⟨(sg c hc).1,?_⟩⟩
 ·unfold Scr.lv Scr.all
  rw [e3,e4,R.view,fl,e1,e2]
  unfold TS.ls
  simp only [List.length_map]
  rfl
 ·rw [e3,e1,R.lh,fl]
  unfold TS.ls; simp
 ·rw [e3,e5,R.lh,fl]
  unfold TS.ls
  simp only [List.length_map]; exact zad (.i (.l K1 Va) (.e (.a (.s (.a Vb K1) Va) (.s (.s (.a Vb K1) K1) (.s (.a Vb K1) Va))) Vb)) rfl hr
 ·rw [e6,e2]; rfl
 ·rw [e7,e2]; rfl
 ·rw [e2]
  exact zcT hcols x.2 fun c hc=>((hx.t c hc).1).1
 ·have:=(sg c hc).2; exact zad (.i (.l Va (.k 400)) (.i (.l Vb (.a Va K1)) (.l Vb (.k 500)))) rfl hn this
theorem zfo:(S "cells"=S "place")=False:=by simp only [eq_iff_iff,iff_false]; decide +kernel
noncomputable def dkL (cl p:Nat):List (Str × V):=[(S "cells",.ref cl),(S "place",.int (p:Int))]
structure Dk (H:Hp) (dk cl:Nat) (cs:List Nat) (p:Nat):Prop where
 d:H dk=some (.dict (dkL cl p))
 c:H cl=some (.list (isV cs))
 n:cs.length≤63
theorem Dk.ext {H H':Hp} {dk cl p:Nat} {cs:List Nat} (h:Dk H dk cl cs p) (e:Ext H H'):Dk H' dk cl cs p:=⟨e _ _ h.d,e _ _ h.c,h.n⟩
theorem zjV (cl p:Nat):dAt (S "place") (dkL cl p)=some (.int (p:Int)):=by unfold dAt dkL; simp [zfo]
theorem zfU (cl p:Nat):dAt (S "cells") (dkL cl p)=some (.ref cl):=by unfold dAt dkL; simp
theorem znS (cl p q:Nat):zcr (S "place") (.int (q:Int)) (dkL cl p)=dkL cl q:=by unfold zcr dkL; simp [zfo]
theorem ze0 (v:Int) {b:Nat} (hb:1≤b):∃ u:Nat,u < b∧v.fmod (b:Int)=(u:Int):=by
 have h1:=Int.fmod_nonneg_of_pos v (show (0:Int) < b by exact zag (.i (.l K1 Va) (.T K0 (.c Va))) rfl hb)
 have h2:=Int.fmod_lt_of_pos v (show (0:Int) < b by exact zag (.i (.l K1 Va) (.T K0 (.c Va))) rfl hb)
 obtain ⟨u,e⟩:=Int.eq_ofNat_of_zero_le h1
 exact ⟨u,by lia,e⟩
section
variable {W:Wx} {H:Hp}
inductive PTk (dk cl p b:Nat) (H:Hp) (x:V) (H':Hp):Prop
 | mk (v:Nat) (h:v < b) (e:x=.int v) (hH:H'=zab H dk (.dict (dkL cl (p+1))))
theorem zdB {dk cl p:Nat} {cs:List Nat} {b:Nat} (h:Dk H dk cl cs p) (hb:1≤b) (hp:p≤900):zae W 1 (.ref 1510) [.ref dk,.int b] H (PTk dk cl p b H):=by
 refine zlt _ _ ?_
 unfold zgv
 walk_at "r"
 refine zfu h.d (zjV _ _) ?_
 walk_at "r"
 refine ziF h.d (by simp [dkL]) ?_
 rw [show ((p:Int)+1)=((p+1:Nat):Int) by exact zag (.E (.a (.c Va) K1) (.c (.a Va K1))) rfl,znS]
 have d1:zab H dk (.dict (dkL cl (p+1))) dk=some (.dict (dkL cl (p+1))):=zai
 have c1:zab H dk (.dict (dkL cl (p+1))) cl=some (.list (isV cs)):=zak h.c (zam h.c h.d rfl)
 obtain ⟨H1,hH1⟩:∃ H1,H1=zab H dk (.dict (dkL cl (p+1))):=⟨_,rfl⟩
 rw [← hH1] at d1 c1 ⊢
 have hn:=h.n
 have il:(isV cs).length=cs.length:=by simp [isV]
 walk_at "r"
 refine zfu d1 (zfU _ _) ?_
 refine zcK c1 (zad (.i (.l Va (.k 63)) (.i (.e Vb Va) (.l Vb (.k 1000000)))) rfl hn il) ?_
 walk_at "r"
 rw [il]
 by_cases q:p < cs.length
 ·refine r_t (decide_eq_true (zad (.i (.t Va Vb) (.T (.c Va) (.c Vb))) rfl q)) ?_
  walk_at "c"
  refine zfu d1 (zfU _ _) ?_
  walk_at "r"
  refine zaB c1 (zag (.i (.l Va (.k 900)) (.A (.L (.g (.k 1000)) (.c Va)) (.L (.c Va) (.k 1000)))) rfl hp) (zba (x:=.int (cs[p]'q:Nat)) (by simp [isV,List.getElem?_eq_getElem q])) ?_
  walk_at "r"
  refine zc2 (zag (.i (.l K1 Va) (.n (.E (.c Va) K0))) rfl hb) ?_
  obtain ⟨u,hu,e⟩:=ze0 ((cs[p]'q:Nat):Int) hb
  rw [e]
  exact Run.ret ⟨u,hu,rfl,hH1⟩
 ·refine r_f (decide_eq_false (zad (.i (.n (.t Va Vb)) (.n (.T (.c Va) (.c Vb)))) rfl q)) ?_
  walk_at "c"
  refine zoh (IntMulOk.of_right (by decide +kernel)) ?_
  walk_at "r"
  refine zfv (by lia) (PyProof.noPylong_small (by decide)) ?_
  walk_at "r"
  refine zc2 (zag (.i (.l K1 Va) (.n (.E (.c Va) K0))) rfl hb) ?_
  obtain ⟨u,hu,e⟩:=ze0 ((p:Int) * 5+(p:Int).fdiv 3) hb
  rw [e]
  exact Run.ret ⟨u,hu,rfl,hH1⟩
theorem zi5 {c r co:Nat} {fs:List (Nat × V)} (e:H c=some (.inst 976 ((11,.int r)::(12,.int co)::fs))):zae W 1 (.ref 966) [.ref c] H (is (.tup [.int r,.int co]) H):=by
 refine zmn _ ?_
 unfold zhl
 walk_at "r"
 exact Run.ret ⟨rfl,rfl⟩
theorem zkK (k:Nat):PyData.eqv (pd k) (pd k)=true:=by
 unfold pd
 split <;> simp [PyData.eqv,PyData.eqvAll]
theorem zpc {s t:Scr} (e:H s.cu=some (.inst 976 s.cuF)) (e':H t.cu=some (.inst 976 t.cuF)) (h1:s.row=t.row) (h2:s.col=t.col) (h3:s.wait=t.wait) (h4:s.pen=t.pen):zae W 2 (.ref 973) [.ref s.cu,.ref t.cu] H (is (.bool true) H):=by
 refine zmo _ _ ?_
 unfold zhm
 unfold Scr.cuF at e e'
 have hp:(pn t.pen).hand=true:=by obtain ⟨a,b,c,e⟩:=zfq t.pen; rw [e]; rfl
 rw [h1,h2,h3,h4] at e
 walk_at "r"
 refine zav ((zi5 e).tu rfl) rfl ?_
 refine zat ?_
 walk_at "r"
 refine zav ((zi5 e').tu rfl) rfl ?_
 refine zat ?_
 refine zcg (n:=1) (m:=1) (b:=false) (.tup (.cons .int (.cons .int .nil))) (.tup (.cons .int (.cons .int .nil))) (lin (.l K1 (.k 60)) [] rfl) (lin (.l K1 (.k 60)) [] rfl) (by simp [PyData.eqv,PyData.eqvAll]) ?_
 walk_at "r"
 refine zoi ?_
 walk_at "r"
 rw [bne_self_eq_false]
 refine r_f rfl ?_
 walk_at "c"
 refine zcg (n:=1) (m:=1) (b:=false) (zdR (n:=0) t.pen) (zdR (n:=0) t.pen) (lin (.l K1 (.k 60)) [] rfl) (lin (.l K1 (.k 60)) [] rfl) (by rw [zkK]; rfl) ?_
 walk_at "r"
 refine ziG ?_
 walk_at "r"
 refine ziG ?_
 walk_at "r"
 exact Run.ret ⟨rfl,rfl⟩
theorem ziT {a b:Nat} {la lb:List Ln} {k:List I} {st:List V} {ρ:Ro} {Q:Out→Prop} (ea:H a=some (.list (zah la))) (eb:H b=some (.list (zah lb))) (hv:la.map (fun l=>(l.cells,l.wr))=lb.map (fun l=>(l.cells,l.wr))) (ha:∀ l ∈ la,zaD H l) (hb:∀ l ∈ lb,zaD H l) (hn:la.length≤1000)
  (h:∀ H',Ext H H'→Run W 1 k (.bool true::st) ρ H' Q):Run W 1 (.lc .zip 2 [none,none] [.unp 2,.sto 0,.sto 1] [Y0,.mth 2,Y1,.call 2]::.call 1::k) (.ref b::.ref a::.raw (.builtin "all")::st) ρ H Q:=by
 have hl:la.length=lb.length:=by have:=congrArg List.length hv; simpa using this
 have zl:((zah la).zipWith (fun x y=>V.tup [x,y]) (zah lb)).length=la.length:=by simp [zah,hl]
 refine Run.lc (l:=(zah la).zipWith (fun x y=>V.tup [x,y]) (zah lb)) (args:=[.ref a,.ref b]) (J:=fun i acc H'=>acc=List.replicate i (.bool true)∧H'=H) rfl rfl ⟨rfl,rfl⟩ (fun i acc H' _ hj=>⟨_,_,by rw [hj.2]; exact ea,by rw [hj.2]; exact eb,rfl⟩) (by rw [zl]; exact hn) (fun i x acc H' hx hac hj=>?_) (fun acc H' hac hj c hc=>?_)
 ·obtain ⟨rfl,rfl⟩:=hj
  have hi:i < la.length:=by
   by_cases q:i < la.length
   ·exact q
   ·rw [List.getElem?_eq_none (by exact zaj (.i (.e Va Vb) (.i (.n (.t Vc Vb)) (.l Va Vc))) rfl zl q)] at hx; injection hx
  have e1:=List.getElem?_eq_getElem hi
  have e2:=List.getElem?_eq_getElem (show i < lb.length by exact zaj (.i (.e Va Vb) (.i (.t Vc Va) (.t Vc Vb))) rfl hl hi)
  have hx':((zah la).zipWith (fun x y=>V.tup [x,y]) (zah lb))[i]?=some (.tup [.ref (la[i]'hi).a,.ref (lb[i]'(zaj (.i (.e Va Vb) (.i (.t Vc Va) (.t Vc Vb))) rfl hl hi)).a]):=by
   rw [List.getElem?_zipWith]; unfold zah; rw [List.getElem?_map,List.getElem?_map,e1,e2]; rfl
  rw [hx'] at hx
  cases hx
  have ev:((la[i]'hi).cells,(la[i]'hi).wr)=((lb[i]'(zaj (.i (.e Va Vb) (.i (.t Vc Va) (.t Vc Vb))) rfl hl hi)).cells,(lb[i]'(zaj (.i (.e Va Vb) (.i (.t Vc Va) (.t Vc Vb))) rfl hl hi)).wr):=by
   have:=congrArg (fun l=>l[i]?) hv
   simp only [List.getElem?_map,e1,e2,Option.map_some,Option.some.injEq] at this
   exact this
  have o1:=ha _ (List.getElem_mem hi)
  have o2:=hb _ (List.getElem_mem (show i < lb.length by exact zaj (.i (.e Va Vb) (.i (.t Vc Va) (.t Vc Vb))) rfl hl hi))
  have o1':=o1.o
  walk_at "c"
  refine zas ((zoW o1 o2 (congrArg Prod.fst ev) (congrArg Prod.snd ev)).tu rfl) rfl ?_
  refine zat ?_
  exact Run.nil ⟨by rw [List.replicate_succ'],rfl⟩
 ·obtain ⟨rfl,rfl⟩:=hj
  refine znW zai ?_
  exact h _ (Ext.new hc)
theorem zpk {s t:Scr} (e:H s.gr=some (.inst 396 s.grF)) (e':H t.gr=some (.inst 396 t.grF)) (ea:H s.gl=some (.list (zah s.grid))) (eb:H t.gl=some (.list (zah t.grid))) (h1:s.rows=t.rows) (h2:s.cols=t.cols) (hv:s.grid.map (fun l=>(l.cells,l.wr))=t.grid.map (fun l=>(l.cells,l.wr))) (ha:∀ l ∈ s.grid,zaD H l) (hb:∀ l ∈ t.grid,zaD H l) (hn:s.grid.length≤1000) :
  zae W 2 (.ref 388) [.ref s.gr,.ref t.gr] H fun x H'=>x=.bool true∧Ext H H':=by
 refine zlJ _ _ ?_
 unfold zgI
 unfold Scr.grF at e e'
 rw [h1,h2] at e
 walk_at "r"
 refine r_f (by simp) ?_
 walk_at "c"
 refine r_f (by simp) ?_
 walk_at "c"
 refine Run.has (by intro j hj; simp at hj) ?_
 walk_at "r"
 refine ziT ea eb hv ha hb hn fun H' E=>?_
 exact Run.ret ⟨rfl,E⟩
theorem zpn {s t:Scr} (e:H s.hi=some (.inst 478 s.hiF)) (e':H t.hi=some (.inst 478 t.hiF)) (ea:H s.hl=some (.list (zah s.hist))) (eb:H t.hl=some (.list (zah t.hist))) (hv:s.hist.map (fun l=>(l.cells,l.wr))=t.hist.map (fun l=>(l.cells,l.wr))) (ha:∀ l ∈ s.hist,zaD H l) (hb:∀ l ∈ t.hist,zaD H l) (hn:s.hist.length≤1000) :
  zae W 3 (.ref 475) [.ref s.hi,.ref t.hi] H fun x H'=>x=.bool true∧Ext H H':=by
 have hl:s.hist.length=t.hist.length:=by have:=congrArg List.length hv; simpa using this
 have l1:(zah s.hist).length=s.hist.length:=by simp [zah]
 have l2:(zah t.hist).length=t.hist.length:=by simp [zah]
 have inner:zae W 2 (.ref 487) [.ref s.hl,.ref t.hl] H fun x H'=>x=.bool true∧Ext H H':=by
  refine zlN _ _ ?_
  unfold zgM
  walk_at "r"
  refine r_f (by rw [l1,l2,hl]; simp) ?_
  walk_at "c"
  refine Run.has (by intro j hj; simp at hj) ?_
  walk_at "r"
  refine ziT ea eb hv ha hb hn fun H' E=>?_
  exact Run.ret ⟨rfl,E⟩
 refine zlM _ _ ?_
 unfold zgL
 unfold Scr.hiF at e e'
 walk_at "r"
 refine zas (inner.tu rfl) rfl ?_
 rintro _ H' ⟨rfl,E⟩
 exact Run.ret ⟨rfl,E⟩
end
noncomputable def Kp (a:Nat) (H H':Hp):Prop:=∀ y m,y≠a→H y=some m→H' y=some m
theorem Kp.of {a:Nat} {H H':Hp} (e:Ext H H'):Kp a H H':=fun y m _ z=>e y m z
theorem Kp.trans {a:Nat} {H H' H'':Hp} (k:Kp a H H') (k':Kp a H' H''):Kp a H H'':=fun y m q z=>k' y m q (k y m q z)
theorem Kp.bk {a:Nat} {H H':Hp} {m:MO} (k:Kp a H H') (o:H' a=some m) {y:Nat} (h:H' y=none):H y=none:=by
 induction z:H y with
 | none=>rfl
 | some v =>
  by_cases q:y=a
  ·rw [q,o] at h; injection h
  ·rw [k _ _ q z] at h; injection h
theorem Kp.ext {a:Nat} {H H':Hp} {m:MO} (k:Kp a (zab H a m) H') (ha:H a=none):Ext H H':=fun y v z=>k y v (zal z ha) (Ext.new ha _ _ z)
section
variable {W:Wx} {H:Hp}
theorem zbm {d:Nat} {k:List I} {st:List V} {ρ:Ro} {Q:Out→Prop} {a C f:Nat} {fs:List (Nat × V)} {v:V} (e:H a=some (.inst C fs)) (hf:okF C f=true) (hl:Nat.ble fs.length 100=true) (h:∀ H',H' a=some (.inst C (zaF f v fs))→Kp a H H'→Run W d k st ρ H' Q):Run W d (.sattr f::k) (.ref a::v::st) ρ H Q:=
 zaq e hf hl (h _ zai fun _ _ q z=>zak z q)
theorem zed {d:Nat} {k:List I} {st:List V} {ρ:Ro} {Q:Out→Prop} (h:∀ c H',H c=none→H' c=some (.dict [])→Ext H H'→Run W d k (.ref c::st) ρ H' Q):Run W d (.dct 0::k) st ρ H Q:=Run.dct0 fun c hc=>h c _ hc zai (Ext.new hc)
theorem zm5:∀ {i:Nat} {x:V},([.str (S "send_receive"),.str (S "autowrap"),.str (S "autorepeat"),.str (S "show_cursor"),.str (S "num_lock")]:List V)[i]?=some x→i < 5∧∃ s,x=.str s∧zcr s (.bool true) (onL.take i)=onL.take (i+1)
 | 0,_,h=>by cases h; exact ⟨by exact lin (.t K0 (.k 5)) [] rfl,_,rfl,by kernel_rfl⟩
 | 1,_,h=>by cases h; exact ⟨by exact lin (.t K1 (.k 5)) [] rfl,_,rfl,by kernel_rfl⟩
 | 2,_,h=>by cases h; exact ⟨by exact lin (.t K2 (.k 5)) [] rfl,_,rfl,by kernel_rfl⟩
 | 3,_,h=>by cases h; exact ⟨by exact lin (.t (.k 3) (.k 5)) [] rfl,_,rfl,by kernel_rfl⟩
 | 4,_,h=>by cases h; exact ⟨by exact lin (.t (.k 4) (.k 5)) [] rfl,_,rfl,by kernel_rfl⟩
 | n+5,_,h=>by simp at h
inductive PMo (H:Hp) (x:V) (H':Hp):Prop
 | mk (m st kp:Nat) (e:x=.ref m) (f0:H m=none) (f1:H st=none) (f2:H kp=none) (h0:H' m=some (.inst 792 [(18,.ref st),(19,.ref kp)])) (h1:H' st=some (.dict onL)) (h2:H' kp=some (.dict [])) (E:Ext H H')
theorem zpz:zae W 2 (.ref 792) [] H (PMo H):=by
 refine zbw (f:=775) (R:=PMo H) (by decide) fun m hm=>?_
 refine zmd _ ?_
 unfold zhc
 obtain ⟨H0,e0⟩:∃ H0,H0=zab H m (.inst 792 []):=⟨_,rfl⟩
 rw [← e0]
 have o0:H0 m=some (.inst 792 []):=by rw [e0]; exact zai
 have x0:Ext H H0:=by rw [e0]; exact Ext.new hm
 clear e0
 refine zed fun st H1 f1 g1 E1=>?_
 have o1:=E1 _ _ o0
 walk_at "r"
 refine zbm o1 rfl rfl fun H2 o2 k2=>?_
 have g2:=k2 _ _ (zal o0 f1).symm g1
 refine zed fun kp H3 f3 g3 E3=>?_
 have o3:=E3 _ _ o2
 have s3:=E3 _ _ g2
 walk_at "r"
 refine zbm o3 rfl rfl fun H4 o4 k4=>?_
 have s4:=k4 _ _ (zal o0 f1).symm s3
 have g4:=k4 _ _ (zal o2 f3).symm g3
 have x4:Ext H H4:=fun y v z=>k4 _ _ (zal z hm) (E3 _ _ (k2 _ _ (zal z hm) (E1 _ _ (x0 _ _ z))))
 have f3':H kp=none:=by
  refine zaE x0 (zaE E1 ?_)
  exact k2.bk o2 f3
 have f1':=zaE x0 f1
 have sk:st≠kp:=zal g2 f3
 clear f1 f3 o1 o2 o3 g1 g2 g3 s3 k2 k4 E1 E3 x0 o0
 have o4':H4 m=some (.inst 792 [(18,.ref st),(19,.ref kp)]):=o4
 clear o4
 walk_at "r"
 refine Run.fr (l:=[.str (S "send_receive"),.str (S "autowrap"),.str (S "autorepeat"),.str (S "show_cursor"),.str (S "num_lock")]) (args:=[.tup [.str (S "send_receive"),.str (S "autowrap"),.str (S "autorepeat"),.str (S "show_cursor"),.str (S "num_lock")]])
  (J:=fun i ρ H'=>(∃ w,ρ=[some (.ref m),w])∧H' m=some (.inst 792 [(18,.ref st),(19,.ref kp)])∧H' st=some (.dict (onL.take i))∧H' kp=some (.dict [])∧Ext H H') (Z:=fun _ _=>False) rfl rfl ⟨⟨_,rfl⟩,o4',s4,g4,x4⟩ (fun i ρ H' _ _=>rfl) (fun i x ρ H' hx hj=>?_) ?_ (fun _ _ z=>z.elim)
 ·obtain ⟨⟨w,rfl⟩,a1,a2,a3,a4⟩:=hj
  obtain ⟨hi,s,rfl,hp⟩:=zm5 hx
  walk_at "c"
  refine ziF a2 (by simp [onL]; exact zag (.l (.m Va (.k 5)) (.k 1000)) rfl) ?_
  rw [hp]
  exact Run.nil ⟨⟨_,rfl⟩,zak a1 (zam a1 a2 rfl),zai,zak a3 sk.symm,a4.upd f1'⟩
 ·rintro ρ H' ⟨⟨w,rfl⟩,a1,a2,a3,a4⟩
  exact Run.nil ⟨rfl,m,st,kp,rfl,hm,f1',f3',a1,a2,a3,a4⟩
theorem zfD {a:Nat} {L:List (Nat × Nat)} (e:H a=some (.list (L.map fun p=>.tup [.int (p.1:Nat),.int (p.2:Nat)]))) (hL:L.length≤1) (h:∀ p ∈ L,p.1≤p.2):zae W 1 (.ref 685) [.ref a] H (is .none H):=by
 refine zl8 _ ?_
 unfold zg7
 walk_at "r"
 refine Run.fr (l:=(L.map fun p=>V.tup [.int (p.1:Nat),.int (p.2:Nat)]).zipIdx.map fun p=>.tup [.int p.2,p.1]) (args:=[.ref a]) (J:=fun i ρ H'=>H'=H∧ρ.length=5∧(i=0→ρ[1]?=some (some (.int (-1))))) (Z:=fun _ _=>False) rfl rfl ⟨rfl,rfl,fun _=>rfl⟩ (fun i ρ H' _ hj=>⟨_,by rw [hj.1]; exact e,rfl⟩) (fun i x ρ H' hx hj=>?_) ?_ (fun _ _ z=>z.elim)
 ·obtain ⟨rfl,hl,hr⟩:=hj
  rcases L with _ | ⟨p,_ | ⟨p',L⟩⟩
  ·simp at hx
  ·rcases i with _ | i
   ·have hp:=h p (by simp)
    simp at hx
    subst hx
    have hr0:=hr rfl
    obtain ⟨r0,r1,r2,r3,r4,rfl⟩:∃ r0 r1 r2 r3 r4,ρ=[r0,r1,r2,r3,r4]:=by
     match ρ,hl with
     | [r0,r1,r2,r3,r4],_=>exact ⟨_,_,_,_,_,rfl⟩
    simp at hr0
    subst hr0
    walk_at "c"
    rw [show decide ((p.1:Int)≤(p.2:Int))=true from decide_eq_true (by exact zad (.i (.l Va Vb) (.L (.c Va) (.c Vb))) rfl hp)]
    refine r_f rfl ?_
    walk_at "c"
    exact Run.nil ⟨rfl,rfl,by simp⟩
   ·simp at hx
  ·simp at hL
 ·rintro ρ H' ⟨rfl,_,_⟩
  exact Run.nil ⟨rfl,rfl⟩
inductive PWi (H:Hp) (x:V) (H':Hp):Prop
 | mk (w c1 c2 c3:Nat) (e:x=.ref w) (f0:H w=none) (f1:H c1=none) (f2:H c2=none) (f3:H c3=none) (h0:H' w=some (.inst 716 [(15,.ref c1),(16,.ref c2),(17,.ref c3)])) (h1:H' c1=some (.list [.tup [.int 19968,.int 20223]])) (h2:H' c2=some (.list [.tup [.int 768,.int 879]])) (E:Ext H H')
theorem zpB {a1 a2 a3:Nat} (e1:H a1=some (.list [.tup [.int 19968,.int 20223]])) (e2:H a2=some (.list [.tup [.int 768,.int 879]])) (e3:H a3=some (.list [])) :
  zae W 3 (.ref 716) [.ref a1,.ref a2,.ref a3] H (PWi H):=by
 refine zbw (f:=699) (R:=PWi H) (by decide) fun m hm=>?_
 refine zma _ _ _ _ ?_
 unfold zg9
 obtain ⟨H0,e0⟩:∃ H0,H0=zab H m (.inst 716 []):=⟨_,rfl⟩
 rw [← e0]
 have o0:H0 m=some (.inst 716 []):=by rw [e0]; exact zai
 have x0:Ext H H0:=by rw [e0]; exact Ext.new hm
 have e1:=x0 _ _ e1
 have e2:=x0 _ _ e2
 have e3:=x0 _ _ e3
 clear e0
 walk_at "r"
 refine zef e1 (by simp) fun c1 H1 f1 g1 E1=>?_
 walk_at "r"
 refine zbm (E1 _ _ o0) rfl rfl fun H2 o2 k2=>?_
 have g12:=k2 _ _ (zal o0 f1).symm g1
 have K2:Kp m H0 H2:=(Kp.of E1).trans k2
 have e2:=K2 _ _ (zam e2 o0 rfl) e2
 have e3:=K2 _ _ (zam e3 o0 rfl) e3
 walk_at "r"
 refine zef e2 (by simp) fun c2 H3 f3 g3 E3=>?_
 walk_at "r"
 refine zbm (E3 _ _ o2) rfl rfl fun H4 o4 k4=>?_
 have g32:=k4 _ _ (zal o2 f3).symm g3
 have K4:Kp m H2 H4:=(Kp.of E3).trans k4
 have e3:=K4 _ _ (zam e3 o2 rfl) e3
 walk_at "r"
 refine zef e3 (by simp) fun c3 H5 f5 g5 E5=>?_
 walk_at "r"
 refine zbm (E5 _ _ o4) rfl rfl fun H6 o6 k6=>?_
 have K6:Kp m H4 H6:=(Kp.of E5).trans k6
 have g52:=k6 _ _ (zal o4 f5).symm g5
 have g13:=K4 _ _ (zal o0 f1).symm g12
 have g14:=K6 _ _ (zal o0 f1).symm g13
 have g34:=K6 _ _ (zal o2 f3).symm g32
 have X:Ext H H6:=fun y v z=>K6 _ _ (zal z hm) (K4 _ _ (zal z hm) (K2 _ _ (zal z hm) (x0 _ _ z)))
 have n1:=zaE x0 f1
 have n2:=zaE x0 (K2.bk o2 f3)
 have n3:=zaE x0 (K2.bk o2 (K4.bk o4 f5))
 have o6':H6 m=some (.inst 716 [(15,.ref c1),(16,.ref c2),(17,.ref c3)]):=o6
 clear o6 e1 e2 e3 K2 K4 K6 k2 k4 k6 E1 E3 E5 f1 f3 f5 g1 g3 g5 g12 g13 g32 o2 o4 o0 x0
 walk_at "r"
 refine Run.fr (l:=[.ref c1,.ref c2,.ref c3]) (args:=[.tup [.ref c1,.ref c2,.ref c3]]) (J:=fun i ρ H'=>H'=H6∧∃ w,ρ=[some (.ref m),some (.ref a1),some (.ref a2),some (.ref a3),w]) (Z:=fun _ _=>False) rfl rfl ⟨rfl,_,rfl⟩ (fun i ρ H' _ _=>rfl) (fun i x ρ H' hx hj=>?_) ?_ (fun _ _ z=>z.elim)
 ·obtain ⟨rfl,w,rfl⟩:=hj
  obtain ⟨c,rfl,hc⟩:∃ c,x=.ref c∧zae W 1 (.ref 685) [.ref c] H' (is .none H'):=by
   match i,hx with
   | 0,hx=>cases hx; exact ⟨_,rfl,zfD (L:=[(19968,20223)]) g14 (by simp) (by simp)⟩
   | 1,hx=>cases hx; exact ⟨_,rfl,zfD (L:=[(768,879)]) g34 (by simp) (by simp)⟩
   | 2,hx=>cases hx; exact ⟨_,rfl,zfD (L:=[]) g52 (by simp) (by simp)⟩
   | n+3,hx=>simp at hx
  walk_at "c"
  refine zav (hc.tu rfl) rfl ?_
  refine zat ?_
  walk_at "r"
  exact Run.nil ⟨rfl,_,rfl⟩
 ·rintro ρ H' ⟨rfl,w,rfl⟩
  exact Run.nil ⟨rfl,m,c1,c2,c3,rfl,hm,n1,n2,n3,o6',g14,g34,X⟩
inductive PCr (H:Hp) (x:V) (H':Hp):Prop
 | mk (c:Nat) (e:x=.ref c) (f:H c=none) (h:H' c=some (.inst 976 [(11,.int 0),(12,.int 0),(13,.bool false),(25,pn 0),(26,.bool false),(27,.bool false)])) (E:Ext H H')
theorem zpy:zae W 2 (.ref 976) [] H (PCr H):=by
 refine zbw (f:=945) (R:=PCr H) (by decide) fun m hm=>?_
 refine zmm _ ?_
 unfold zhk
 walk_at "r"
 refine zaq zai rfl rfl ?_
 walk_at "r"
 refine zaq zai rfl rfl ?_
 walk_at "r"
 refine zaq zai rfl rfl ?_
 walk_at "r"
 refine zaq zai rfl rfl ?_
 walk_at "r"
 refine zaq zai rfl rfl ?_
 walk_at "r"
 refine zaq zai rfl rfl ?_
 rw [zaC,zaC,zaC,zaC,zaC,zaC]
 exact Run.nil ⟨rfl,m,rfl,hm,zai,Ext.new hm⟩
inductive PTa (cols:Nat) (H:Hp) (x:V) (H':Hp):Prop
 | mk (t sp:Nat) (e:x=.ref t) (f0:H t=none) (f1:H sp=none) (h0:H' t=some (.inst 1208 [(4,.int cols),(30,.ref sp)])) (h1:H' sp=some (.dict [])) (E:Ext H H')
theorem zpA {cols:Nat} (hc:cols≤7):zae W 3 (.ref 1208) [.int cols] H (PTa cols H):=by
 refine zbw (f:=1127) (R:=PTa cols H) (by decide) fun m hm=>?_
 refine zk5 _ _ ?_
 unfold zf7
 obtain ⟨H0,e0⟩:∃ H0,H0=zab H m (.inst 1208 []):=⟨_,rfl⟩
 rw [← e0]
 have o0:H0 m=some (.inst 1208 []):=by rw [e0]; exact zai
 have x0:Ext H H0:=by rw [e0]; exact Ext.new hm
 clear e0
 walk_at "r"
 refine zbm o0 rfl rfl fun H1 o1 k1=>?_
 refine zed fun sp H2 f2 g2 E2=>?_
 walk_at "r"
 refine zbm (E2 _ _ o1) rfl rfl fun H3 o3 k3=>?_
 have g3:=k3 _ _ (zal o1 f2).symm g2
 have o3':H3 m=some (.inst 1208 [(4,.int cols),(30,.ref sp)]):=o3
 walk_at "r"
 refine zas ((zi6 (b:=0) o3' hc).tu rfl) rfl ?_
 refine zat ?_
 walk_at "r"
 exact Run.nil ⟨rfl,m,sp,rfl,hm,zaE x0 (k1.bk o1 f2),o3',g3,fun y v z=>k3 _ _ (zal z hm) (E2 _ _ (k1 _ _ (zal z hm) (x0 _ _ z)))⟩
inductive PCh (H:Hp) (x:V) (H':Hp):Prop
 | mk (c md nm:Nat) (e:x=.ref c) (f0:H c=none) (f1:H md=none) (f2:H nm=none) (h0:H' c=some (.inst 920 [(20,.ref md),(21,.ref nm),(22,.int 0),(23,.int 2),(24,.none)])) (h1:H' md=some (.dict [])) (h2:H' nm=some (.list nmL)) (E:Ext H H')
theorem zpx:zae W 3 (.ref 920) [] H (PCh H):=by
 refine zbw (f:=846) (R:=PCh H) (by decide) fun m hm=>?_
 refine zmh _ ?_
 unfold zeG
 obtain ⟨H0,e0⟩:∃ H0,H0=zab H m (.inst 920 []):=⟨_,rfl⟩
 rw [← e0]
 have o0:H0 m=some (.inst 920 []):=by rw [e0]; exact zai
 have x0:Ext H H0:=by rw [e0]; exact Ext.new hm
 clear e0
 walk_at "r"
 refine zed fun md H2 f2 g2 E2=>?_
 walk_at "r"
 refine zbm (E2 _ _ o0) rfl rfl fun H3 o3 k3=>?_
 have g3:=k3 _ _ (zal o0 f2).symm g2
 have o3':H3 m=some (.inst 920 [(20,.ref md)]):=o3
 have rs:zae W 1 (.ref 860) [.ref m] H3 fun x H'=>x=.none∧∃ nm,H3 nm=none∧H' m=some (.inst 920 [(20,.ref md),(21,.ref nm),(22,.int 0),(23,.int 2),(24,.none)])∧H' nm=some (.list nmL)∧Kp m H3 H':=by
  refine zmj _ ?_
  unfold zhh
  walk_at "r"
  refine zod fun nm f4=>?_
  walk_at "r"
  have n0:=zal o3' f4
  refine zaq (zak o3' n0) rfl rfl ?_
  walk_at "r"
  refine zaq zai rfl rfl ?_
  walk_at "r"
  refine zaq zai rfl rfl ?_
  walk_at "r"
  refine zaq zai rfl rfl ?_
  rw [zaC,zaC,zaC]
  exact Run.nil ⟨rfl,nm,f4,zai,zak zai n0.symm,fun y v q z=>zak (Ext.new f4 _ _ z) q⟩
 walk_at "r"
 refine zav (rs.tu rfl) rfl ?_
 rintro _ H4 ⟨rfl,nm,f4,o4,g4,k4⟩
 walk_at "r"
 exact Run.nil ⟨rfl,m,md,nm,rfl,hm,zaE x0 f2,zaE x0 (zaE E2 (k3.bk o3 f4)),o4,k4 _ _ (zal o0 f2).symm g3,g4,fun y v z=>k4 _ _ (zal z hm) (k3 _ _ (zal z hm) (E2 _ _ (x0 _ _ z)))⟩
end
section
variable {W:Wx} {H:Hp}
structure NewS (H H':Hp) (sc mo wt hi rows cols:Nat) (g gl cu ma tb sp ch md nm la:Nat) (ls:List Ln):Prop where
 osc:H' sc=some (.inst 1485 [(3,.int rows),(4,.int cols),(31,.ref mo),(32,.ref wt),(33,.ref hi),(34,.ref g),(35,.ref cu),(36,.ref ma),(37,.ref tb),(38,.ref ch),(39,.none),(40,.ref la),(41,.bool false)])
 og:H' g=some (.inst 396 [(3,.int rows),(4,.int cols),(5,.ref gl)])
 ogl:H' gl=some (.list (zah ls))
 ocu:H' cu=some (.inst 976 [(11,.int 0),(12,.int 0),(13,.bool false),(25,pn 0),(26,.bool false),(27,.bool false)])
 oma:H' ma=some (.inst 1109 [(3,.int rows),(4,.int cols),(28,.int 0),(29,.int ((rows:Int) - 1)),(22,.int 0),(23,.int ((cols:Int) - 1))])
 otb:H' tb=some (.inst 1208 [(4,.int cols),(30,.ref sp)])
 osp:H' sp=some (.dict [])
 och:H' ch=some (.inst 920 [(20,.ref md),(21,.ref nm),(22,.int 0),(23,.int 2),(24,.none)])
 omd:H' md=some (.dict [])
 onm:H' nm=some (.list nmL)
 ons:zeu rows cols H ls H'
 cg:∀ l ∈ ls,l.c≠gl
 cn:∀ l ∈ ls,l.c≠nm
 ms:md≠sp
 fr:H g=none∧H gl=none∧H cu=none∧H tb=none∧H md=none∧H nm=none
 kp:Kp sc H H'
inductive PSi (sc mo wt hi rows cols:Nat) (H:Hp) (x:V) (H':Hp):Prop
 | mk (e:x=.none) (g gl cu ma tb sp ch md nm la:Nat) (ls:List Ln) (N:NewS H H' sc mo wt hi rows cols g gl cu ma tb sp ch md nm la ls)
inductive PSn (mo wt hi rows cols:Nat) (H:Hp) (x:V) (H':Hp):Prop
 | mk (sc g gl cu ma tb sp ch md nm la:Nat) (ls:List Ln) (e:x=.ref sc) (f:H sc=none) (N:NewS (zab H sc (.inst 1485 [])) H' sc mo wt hi rows cols g gl cu ma tb sp ch md nm la ls)
theorem zoY {sc mo wt hi rows cols:Nat} (e:H sc=some (.inst 1485 [])) (hr:1≤rows∧rows≤7) (hc:1≤cols∧cols≤7) :
  zae W 8 (.ref 1228) [.ref sc,.int rows,.int cols,.ref mo,.ref wt,.ref hi] H (PSi sc mo wt hi rows cols H):=by
 refine zk9 _ _ _ _ _ _ ?_
 unfold zgb
 walk_at "r"
 refine zaq e rfl rfl ?_
 walk_at "r"
 refine zaq zai rfl rfl ?_
 walk_at "r"
 refine zaq zai rfl rfl ?_
 walk_at "r"
 refine zaq zai rfl rfl ?_
 walk_at "r"
 refine zaq zai rfl rfl ?_
 rw [zaC,zaC,zaC,zaC]
 obtain ⟨H1,e1⟩:∃ H1,H1=zab H sc (.inst 1485 [(3,.int rows),(4,.int cols),(31,.ref mo),(32,.ref wt),(33,.ref hi)]):=⟨_,rfl⟩
 refine (show zab H sc (.inst 1485 (zaF 33 (.ref hi) (zaF 32 (.ref wt) (zaF 31 (.ref mo) (zaF 4 (.int cols) (zaF 3 (.int rows) []))))))=H1 from e1.symm) ▸ ?_
 have o1:H1 sc=some (.inst 1485 [(3,.int rows),(4,.int cols),(31,.ref mo),(32,.ref wt),(33,.ref hi)]):=by rw [e1]; exact zai
 have k1:Kp sc H H1:=by rw [e1]; exact fun y v q z=>zak z q
 clear e1
 walk_at "r"
 refine zas ((zjg rows cols hr hc).tu rfl) rfl ?_
 rintro _ H2 ⟨g,gl,ls,rfl,fg,fgl,og,ogl,N,ncg,E2⟩
 walk_at "r"
 have b1:∀ y,H1 y=none→H y=none:=fun y=>k1.bk o1
 have ng1:=zal o1 fg
 have ngl1:=zal o1 fgl
 refine zbm (E2 _ _ o1) rfl rfl fun H3 o3 k3=>?_
 have q2:Kp sc H1 H3:=(Kp.of E2).trans k3
 have b3:∀ y,H3 y=none→H1 y=none:=fun y=>q2.bk o3
 have lsn:∀ l ∈ ls,l.a≠sc∧l.c≠sc:=fun l hl=>⟨(zal o1 (N.fr l hl).1).symm,(zal o1 (N.fr l hl).2).symm⟩
 walk_at "r"
 refine zfs (zpy.tu rfl) rfl ?_
 rintro _ H4 ⟨cu,rfl,fcu,ocu,E4⟩
 walk_at "r"
 have ncu:=zal o3 fcu
 refine zbm (E4 _ _ o3) rfl rfl fun H5 o5 k5=>?_
 have q4:Kp sc H3 H5:=(Kp.of E4).trans k5
 have b5:∀ y,H5 y=none→H3 y=none:=fun y=>q4.bk o5
 walk_at "r"
 refine zas ((zji rows cols).tu rfl) rfl ?_
 rintro _ H6 ⟨ma,rfl,fma,rfl⟩
 have E6:Ext H5 _:=Ext.new (m:=.inst 1109 [(3,.int rows),(4,.int cols),(28,.int 0),(29,.int ((rows:Int) - 1)),(22,.int 0),(23,.int ((cols:Int) - 1))]) fma
 have oma:zab H5 ma (.inst 1109 [(3,.int rows),(4,.int cols),(28,.int 0),(29,.int ((rows:Int) - 1)),(22,.int 0),(23,.int ((cols:Int) - 1))]) ma=_:=zai
 generalize zab H5 ma (.inst 1109 [(3,.int rows),(4,.int cols),(28,.int 0),(29,.int ((rows:Int) - 1)),(22,.int 0),(23,.int ((cols:Int) - 1))])=H6 at *
 walk_at "r"
 have nma:=zal o5 fma
 refine zbm (E6 _ _ o5) rfl rfl fun H7 o7 k7=>?_
 have q6:Kp sc H5 H7:=(Kp.of E6).trans k7
 have b7:∀ y,H7 y=none→H5 y=none:=fun y=>q6.bk o7
 walk_at "r"
 refine zav ((zpA (cols:=cols) (zag (.i (.A (.l K1 Va) (.l Va (.k 7))) (.l Va (.k 7))) rfl hc)).tu rfl) rfl ?_
 rintro _ H8 ⟨tb,sp,rfl,ftb,fsp,otb,osp,E8⟩
 walk_at "r"
 have ntb:=zal o7 ftb
 have nsp:=zal o7 fsp
 refine zbm (E8 _ _ o7) rfl rfl fun H9 o9 k9=>?_
 have q8:Kp sc H7 H9:=(Kp.of E8).trans k9
 have b9:∀ y,H9 y=none→H7 y=none:=fun y=>q8.bk o9
 have otb9:=k9 _ _ ntb.symm otb
 have osp9:=k9 _ _ nsp.symm osp
 walk_at "r"
 refine zfs (zpx.tu rfl) rfl ?_
 rintro _ HA ⟨ch,md,nm,rfl,fch,fmd,fnm,och,omd,onm,EA⟩
 walk_at "r"
 have nch:=zal o9 fch
 have nmd:=zal o9 fmd
 have nnm:=zal o9 fnm
 have mdsp:=(zal osp9 fmd).symm
 refine zbm (EA _ _ o9) rfl rfl fun HB oB kB=>?_
 have qA:Kp sc H9 HB:=(Kp.of EA).trans kB
 walk_at "r"
 refine zbm oB rfl rfl fun HC oC kC=>?_
 refine zbk fun la HD fla gla ED=>?_
 walk_at "r"
 refine zbm (ED _ _ oC) rfl rfl fun HE oE kE=>?_
 walk_at "r"
 refine zbm oE rfl rfl fun HF oF kF=>?_
 have qF:Kp sc HB HF:=((kC.trans (Kp.of ED)).trans kE).trans kF
 have qFA:Kp sc HA HF:=kB.trans qF
 have qF9:Kp sc H9 HF:=qA.trans qF
 have qF7:=q8.trans qF9
 have qF6:=k7.trans qF7
 have qF5:=q6.trans qF7
 have qF4:=k5.trans qF5
 have qF3:=q4.trans qF5
 have qF2:=k3.trans qF3
 have c39:∀ l ∈ ls,l.c≠nm:=fun l hl=>by
  have z:=q8 _ _ (lsn l hl).2 (q6 _ _ (lsn l hl).2 (q4 _ _ (lsn l hl).2 (k3 _ _ (lsn l hl).2 (N.at_ l hl).cs)))
  exact zal z fnm
 refine Run.nil ⟨rfl,g,gl,cu,ma,tb,sp,ch,md,nm,la,ls,oF,qF2 _ _ ng1.symm og,qF2 _ _ ngl1.symm ogl,qF4 _ _ ncu.symm ocu,qF6 _ _ nma.symm oma,qF9 _ _ ntb.symm otb9,qF9 _ _ nsp.symm osp9,qFA _ _ nch.symm och,qFA _ _ nmd.symm omd,qFA _ _ nnm.symm onm,
  ⟨N.len,fun l hl=>⟨qF2 _ _ (lsn l hl).1 (N.at_ l hl).o,qF2 _ _ (lsn l hl).2 (N.at_ l hl).cs⟩,fun l hl=>⟨b1 _ (N.fr l hl).1,b1 _ (N.fr l hl).2⟩,N.cs,N.nda,N.ndc⟩,ncg,c39,mdsp,
  ⟨b1 _ fg,b1 _ fgl,b1 _ (b3 _ fcu),b1 _ (b3 _ (b5 _ (b7 _ ftb))),b1 _ (b3 _ (b5 _ (b7 _ (b9 _ fmd)))),b1 _ (b3 _ (b5 _ (b7 _ (b9 _ fnm))))⟩,k1.trans (q2.trans qF3)⟩
structure zfO (H:Hp) (rows cols:Nat) (s:Scr) (H':Hp):Prop where
 is_:Is H' s
 erows:s.rows=rows
 ecols:s.cols=cols
 hist:s.hist=[]
 grid:s.grid.length=rows∧∀ l ∈ s.grid,l.cells=List.replicate cols zar∧l.wr=false
 cur:s.row=0∧s.col=0∧s.wait=false∧s.pen=0
 new:∀ a ∈ s.foot,H a=none
 ext:Ext H H'
inductive PSc (rows cols:Nat) (H:Hp) (x:V) (H':Hp):Prop
 | mk (s:Scr) (e:x=.ref s.sc) (N:zfO H rows cols s H')
theorem zjj {rows cols:Nat} (hr:1≤rows∧rows≤4) (hc:2≤cols∧cols≤7) :
  zae W 10 (.ref 1517) [.int rows,.int cols] H (PSc rows cols H):=by
 refine zlu _ _ ?_
 unfold zgw
 walk_at "r"
 refine zfs (zpz.tu rfl) rfl ?_
 rintro _ H1 ⟨mo,st,kp,rfl,fmo,fst,fkp,omo,ost,okp,E1⟩
 walk_at "r"
 refine zdw fun a1 H2 f1 g1 E2=>?_
 walk_at "r"
 refine zdw fun a2 H3 f2 g2 E3=>?_
 refine zbk fun a3 H4 f3 g3 E4=>?_
 refine za0 ((zpB (E4 _ _ (E3 _ _ g1)) (E4 _ _ g2) g3).tu rfl) rfl ?_
 rintro _ H5 ⟨wt,c1,c2,c3,rfl,fwt,fc1,fc2,fc3,owt,oc1,oc2,E5⟩
 walk_at "r"
 refine zav ((zjh 400).tu rfl) rfl ?_
 rintro _ H6 ⟨hi,hl,rfl,fhi,fhl,ohi,ohl,E6⟩
 have X1:Ext H1 H6:=(E2.trans (E3.trans (E4.trans E5))).trans E6
 have X0:Ext H H6:=E1.trans X1
 have sci:zae W 9 (.ref 1485) [.int rows,.int cols,.ref mo,.ref wt,.ref hi] H6 (PSn mo wt hi rows cols H6):=by
  refine zbw (f:=1228) (R:=PSn mo wt hi rows cols H6) (by decide) fun sc hsc=>(zoY zai (zag (.i (.A (.l K1 Va) (.l Va (.k 4))) (.A (.l K1 Va) (.l Va (.k 7)))) rfl hr) (zag (.i (.A (.l K2 Va) (.l Va (.k 7))) (.A (.l K1 Va) (.l Va (.k 7)))) rfl hc)).mono ?_
  rintro _ H' ⟨rfl,g,gl,cu,ma,tb,sp,ch,md,nm,la,ls,N⟩
  exact ⟨rfl,sc,g,gl,cu,ma,tb,sp,ch,md,nm,la,ls,rfl,hsc,N⟩
 refine zft (sci.tu rfl) rfl ?_
 rintro _ H7 ⟨sc,g,gl,cu,ma,tb,sp,ch,md,nm,la,ls,rfl,fsc,N⟩
 have X7:Ext H6 H7:=N.kp.ext fsc
 have bk6:∀ y,zab H6 sc (.inst 1485 []) y=none→H6 y=none:=fun y=>zaE (Ext.new fsc)
 have bk0:∀ y,H6 y=none→H y=none:=fun y=>zaE X0
 obtain ⟨fg,fgl,fcu,ftb,fmd,fnm⟩:=N.fr
 have ohi7:=X7 _ _ ohi
 have ohl7:=X7 _ _ ohl
 refine Run.ret ⟨⟨sc,g,gl,hi,hl,cu,ma,ch,md,nm,mo,st,kp,wt,c1,c2,c3,tb,sp,la,rows,cols,[],ls,0,0,false,0⟩,rfl,⟨N.osc,N.og,N.ogl,ohi7,ohl7,N.ocu,N.oma,N.och,.inl N.omd,N.onm,X7 _ _ (X1 _ _ omo),X7 _ _ (X1 _ _ ost),X7 _ _ (E6 _ _ owt),X7 _ _ (E6 _ _ oc1),X7 _ _ (E6 _ _ oc2),N.otb,N.osp,N.ons.at_,fun l hl=>?_,?_,N.ons.nda,N.ons.ndc,⟨?_,N.ms⟩,fun l hl=>?_,hr,hc,N.ons.len,by simp,by dsimp only; exact zag (.i (.A (.l K1 Va) (.l Va (.k 4))) (.t K0 Va)) rfl hr,by dsimp only; exact zag (.i (.A (.l K2 Va) (.l Va (.k 7))) (.t K0 Va)) rfl hc⟩,rfl,rfl,rfl,⟨N.ons.len,N.ons.cs⟩,⟨rfl,rfl,rfl,rfl⟩,?_,X0.trans X7⟩
 ·have f6:=bk6 _ (N.ons.fr l hl).2
  simp only [List.mem_cons,List.not_mem_nil,or_false,not_or]
  exact ⟨N.cg l hl,(zal ohl f6).symm,N.cn l hl,(zal (E6 _ _ oc1) f6).symm,(zal (E6 _ _ oc2) f6).symm⟩
 ·simp only [List.mem_cons,List.not_mem_nil,or_false,not_or]
  exact ⟨zal ohl (bk6 _ fgl),zal ohl (bk6 _ fnm),(zal oc1 fhl).symm,(zal oc2 fhl).symm⟩
 ·exact (zal (X1 _ _ ost) (bk6 _ fmd)).symm
 ·have:=(N.ons.cs l hl).1
  rw [this]; simp
 ·intro a ha
  unfold Scr.foot Scr.all at ha
  simp only [List.nil_append,List.mem_append,List.mem_cons,List.not_mem_nil,or_false,List.mem_map] at ha
  rcases ha with (rfl | rfl | rfl | rfl | rfl | rfl) | ⟨l,hl,rfl⟩ | ⟨l,hl,rfl⟩
  ·exact bk0 _ fsc
  ·exact bk0 _ (bk6 _ fcu)
  ·exact bk0 _ (bk6 _ fmd)
  ·exact bk0 _ (bk6 _ fg)
  ·exact zaE (E1.trans (E2.trans (E3.trans (E4.trans E5)))) fhl
  ·exact bk0 _ (bk6 _ ftb)
  ·exact bk0 _ (bk6 _ (N.ons.fr l hl).1)
  ·exact bk0 _ (bk6 _ (N.ons.fr l hl).2)
end
theorem zhQ {H H':Hp} {rows cols:Nat} {s:Scr} (N:zfO H rows cols s H'):zaV s ([],[]):=by
 have hcl:=N.is_.cl
 have hrw:=N.is_.rwb
 obtain ⟨g1,g2⟩:=N.grid
 obtain ⟨c1,c2,c3,c4⟩:=N.cur
 refine ⟨⟨?_,?_,?_,?_,?_,?_,[],rfl,by simp⟩,by simp⟩
 ·have e:s.lv=List.replicate s.rows (List.replicate s.cols zar,false):=by
   unfold Scr.lv Scr.all
   rw [N.hist,List.nil_append]
   refine List.eq_replicate_iff.mpr ⟨by simp [g1,N.erows],fun q hq=>?_⟩
   obtain ⟨l,hl,rfl⟩:=List.mem_map.mp hq
   rw [(g2 l hl).1,(g2 l hl).2,N.ecols]
  rw [e]
  unfold zaT TS.ls zaz
  simp only [List.map_nil,List.nil_append,List.map_cons,List.length_nil,zac,List.flatMap_nil,Nat.sub_zero,Nat.zero_add,List.cons_append]
  rw [show s.rows=(s.rows - 1)+1 by exact zag (.i (.A (.l K1 Va) (.l Va (.k 4))) (.e Va (.a (.s Va K1) K1))) rfl hrw,List.replicate_succ]
  simp
 ·rw [N.hist]; simp [TS.ls]; exact zag (.i (.A (.l K1 Va) (.l Va (.k 4))) (.e K0 (.s K1 Va))) rfl hrw
 ·rw [N.hist,c1]; simp [TS.ls]
 ·rw [c2]; simp [TS.ls,zac]
 ·rw [c3]; simp [TS.ls,zac]; exact zag (.i (.A (.l K2 Va) (.l Va (.k 7))) (.n (.e K0 Va))) rfl hcl
 ·simp [TS.ls,zac]
noncomputable def stV (st:List (Nat × Nat)):List V:=st.map fun e=>.tup [.int (e.1:Nat),pn e.2]
noncomputable def OkC (e:Nat × Nat):Prop:=e.1=0∨e.1=769∨(97≤e.1∧e.1≤122)∨(19968≤e.1∧e.1≤20000)
noncomputable def zds (st:List (Nat × Nat)):Nat:=(st.getLast?.map (·.2)).getD 0
structure Oth (m:MO):Prop where
 i:∀ C fs,MO.inst C fs≠m
 d:MO.dict []≠m
 o:MO.dict onL≠m
 l:∀ x ls,MO.list (zah (x::ls))≠m
 n:MO.list nmL≠m
 w:MO.list [.tup [.int 19968,.int 20223]]≠m
 k:MO.list [.tup [.int 768,.int 879]]≠m
theorem zny (cl p:Nat):Oth (.dict (dkL cl p)):=by
 refine ⟨fun _ _ h=>?_,fun h=>?_,fun h=>?_,fun _ _ h=>?_,fun h=>?_,fun h=>?_,fun h=>?_⟩
 ·injection h
 ·cases h
 ·unfold onL dkL at h
  injection h with h
  have:=congrArg List.length h
  simp at this
 ·injection h
 ·injection h
 ·injection h
 ·injection h
theorem znI (k:Nat):∃ l,pn k=.tup l:=by obtain ⟨a,b,c,e⟩:=zfq k; exact ⟨_,e⟩
theorem znz (st:List (Nat × Nat)):Oth (.list (stV st)):=by
 refine ⟨fun _ _ h=>?_,fun h=>?_,fun h=>?_,fun x ls h=>?_,fun h=>?_,fun h=>?_,fun h=>?_⟩
 ·injection h
 ·injection h
 ·injection h
 all_goals induction st using List.casesOn with
 | nil=>simp [stV,zah,nmL] at h
 | cons e st=>obtain ⟨l,hl⟩:=znI e.2; simp [stV,zah,nmL,hl] at h
theorem Is.keep {H H':Hp} {s:Scr} {b:Nat} {m0:MO} (h:Is H s) (hb:b ∉ s.foot) (h0:H b=some m0) (ho:Oth m0) (k:∀ a m,H a=some m→a≠b→H' a=some m):Is H' s:=by
 have n:∀ {a m},H a=some m→m≠m0→H' a=some m:=fun {a m} x q=>k a m x fun z=>by subst z; rw [x] at h0; cases h0; exact q rfl
 have f:∀ {a m},H a=some m→a ∈ s.foot→H' a=some m:=fun {a m} x q=>k a m x fun z=>hb (z ▸ q)
 have fa:∀ l ∈ s.all,l.a ∈ s.foot:=fun l hl=>by
  unfold Scr.foot; exact List.mem_append_right _ (List.mem_append_left _ (List.mem_map_of_mem hl))
 have fc:∀ l ∈ s.all,l.c ∈ s.foot:=fun l hl=>by
  unfold Scr.foot; exact List.mem_append_right _ (List.mem_append_right _ (List.mem_map_of_mem hl))
 have gl:MO.list (zah s.grid)≠m0:=by
  have:=h.gn
  have hr:=h.rwb
  induction q:s.grid using List.casesOn with
  | nil=>rw [q] at this; simp at this; lia
  | cons x ls=>exact ho.l x ls
 exact ⟨f h.sc (by simp [Scr.foot]),f h.gr (by simp [Scr.foot]),n h.gl gl,n h.hi (ho.i _ _),f h.hl (by simp [Scr.foot]),f h.cu (by simp [Scr.foot]),n h.ma (ho.i _ _),n h.ch (ho.i _ _),h.md.imp (fun x=>n x ho.d) fun ⟨x,a,b⟩=>⟨x,f a (by simp [Scr.foot]),n b ho.d⟩,n h.nm ho.n,n h.mo (ho.i _ _),n h.st ho.o,n h.wt (ho.i _ _),n h.wd ho.w,n h.mkr ho.k,f h.tb (by simp [Scr.foot]),n h.sp ho.d,
  fun l hl=>⟨f (h.ln l hl).o (fa l hl),f (h.ln l hl).cs (fc l hl)⟩,h.sep,h.hs,h.nda,h.ndc,h.ms,h.wid,h.rwb,h.cl,h.gn,h.hn,h.rb,h.cb⟩
theorem Frm.out {s s':Scr} {H H':Hp} (f:Frm s H s' H') {a:Nat} {m:MO} (h:H a=some m) (ha:a ∉ s.foot):H' a=some m∧a ∉ s'.foot:=⟨f.keep a m h ha,fun z=>by
 rcases f.new a z with q | q
 ·exact ha q
 ·rw [q] at h; injection h⟩
structure Lw (H:Hp) (s:Scr) (dk cl sm:Nat) (cs:List Nat) (p:Nat) (st:List (Nat × Nat)):Prop where
 is_:Is H s
 good:zaV s (zay s.cols (zaK st))
 deck:Dk H dk cl cs p
 stm:H sm=some (.list (stV st))
 out:dk ∉ s.foot∧cl ∉ s.foot∧sm ∉ s.foot
 ne:sm≠cl
 pen:s.pen=zds st
 ok:∀ e ∈ st,OkC e
theorem Lw.ext {H H':Hp} {s:Scr} {dk cl sm p:Nat} {cs:List Nat} {st:List (Nat × Nat)} (h:Lw H s dk cl sm cs p st) (e:Ext H H'):Lw H' s dk cl sm cs p st:=⟨h.is_.ext e,h.good,h.deck.ext e,e _ _ h.stm,h.out,h.ne,h.pen,h.ok⟩
theorem Lw.take {H:Hp} {s:Scr} {dk cl sm p:Nat} {cs:List Nat} {st:List (Nat × Nat)} (h:Lw H s dk cl sm cs p st) (q:Nat):Lw (zab H dk (.dict (dkL cl q))) s dk cl sm cs q st:=
 ⟨h.is_.keep h.out.1 h.deck.d (zny _ _) fun a m x z=>zak x z,h.good,⟨zai,zak h.deck.c (zam h.deck.c h.deck.d rfl),h.deck.n⟩,zak h.stm (zam h.stm h.deck.d rfl),h.out,h.ne,h.pen,h.ok⟩
theorem zjy (st:List (Nat × Nat)) (e:Nat × Nat):zaK (st++[e])=zci (zaK st) e:=by unfold zaK; rw [List.foldl_append]; rfl
theorem zbZ.hist_le {H:Hp} {s:Scr} {st:TS} {n:Nat} (g:zaV s st) (h:Is H s) (hn:st.1.length≤n):s.hist.length≤n:=by
 have:=g.g.first
 have:=h.rwb
 unfold TS.ls at *
 simp only [List.length_map] at *
 lia
section
variable {W:Wx} {H:Hp} {s:Scr}
theorem zjr {st:List (Nat × Nat)} (I0:Is H s) (g:zaV s (zay s.cols (zaK st))) (e:Nat × Nat) (he:OkC e) (hn:st.length≤60) :
  zae W 13 (.ref 1524) [.ref s.sc,.int (e.1:Nat),pn e.2] H (PWr s H (zds (st++[e])) (zay s.cols (zaK (st++[e])))):=by
 have ox:=zdq st
 have hl:=zfb (cols:=s.cols) ox
 refine (zpX I0 g he (fun c hc=>by have:=(zh6 ox c hc).2; exact zad (.i (.l Va (.k 60)) (.i (.l Vb (.a Va K1)) (.l Vb (.k 499)))) rfl hn this) (by have:=zbZ.hist_le g I0 hl; exact zad (.i (.l Va (.k 60)) (.i (.l Vb Va) (.l (.a Vb K1) (.k 300)))) rfl hn this)).mono ?_
 rintro x H' ⟨rfl,s',I',F,e1,e2,e3,e4,g'⟩
 refine ⟨rfl,s',I',F,e1,e2,e3,e4.trans (by simp [zds]),?_⟩
 rw [zjy,zmD]
 exact g'
theorem Lw.wrote {H H':Hp} {s s':Scr} {dk cl sm p:Nat} {cs:List Nat} {st:List (Nat × Nat)} {e:Nat × Nat} (h:Lw H s dk cl sm cs p st) (he:OkC e) (I':Is H' s') (F:Frm s H s' H') (e3:s'.cols=s.cols) (e4:s'.pen=zds (st++[e])) (g:zaV s' (zay s.cols (zaK (st++[e])))) :
  H' sm=some (.list (stV st))∧Lw (zab H' sm (.list (stV st++[.tup [.int (e.1:Nat),pn e.2]]))) s' dk cl sm cs p (st++[e]):=by
 obtain ⟨o1,o2,o3⟩:=h.out
 obtain ⟨a1,b1⟩:=F.out h.deck.d o1
 obtain ⟨a2,b2⟩:=F.out h.deck.c o2
 obtain ⟨a3,b3⟩:=F.out h.stm o3
 have ev:stV st++[.tup [.int (e.1:Nat),pn e.2]]=stV (st++[e]):=by simp [stV]
 refine ⟨a3,?_⟩
 rw [ev]
 refine ⟨I'.keep b3 a3 (znz _) fun a m x z=>zak x z,by rw [e3]; exact g,⟨zak a1 (zam a1 a3 rfl),zak a2 h.ne.symm,h.deck.n⟩,zai,⟨b1,b2,b3⟩,h.ne,e4,fun x hx=>?_⟩
 rcases List.mem_append.mp hx with hx | hx
 ·exact h.ok x hx
 ·rw [List.mem_singleton.mp hx]; exact he
theorem zkN (a b:Nat):(a:Int).fdiv (b:Int)=((a / b:Nat):Int):=by
 rw [Int.fdiv_eq_ediv_of_nonneg _ (by exact zag (.L K0 (.c Va)) rfl)]; rfl
theorem ze1 (a b:Nat):(a:Int).fmod (b:Int)=((a % b:Nat):Int):=by
 rw [Int.fmod_eq_emod_of_nonneg _ (by exact zag (.L K0 (.c Va)) rfl)]; rfl
inductive PGr (s:Scr) (dk cl sm:Nat) (cs:List Nat) (p:Nat) (st:List (Nat × Nat)) (x:V) (H':Hp):Prop
 | mk (e:x=.none) (s':Scr) (st':List (Nat × Nat)) (p':Nat) (L:Lw H' s' dk cl sm cs p' st') (h1:s'.sc=s.sc) (h2:s'.rows=s.rows) (h3:s'.cols=s.cols) (h4:p'≤p+8) (h5:st'.length≤st.length+7)
inductive JGr (s:Scr) (dk cl sm:Nat) (cs:List Nat) (p:Nat) (st:List (Nat × Nat)) (i:Nat) (ρ:Ro) (H':Hp):Prop
 | mk (s':Scr) (st':List (Nat × Nat)) (a b c d e:Option V) (hρ:ρ=[some (.ref dk),some (.ref s.sc),some (.ref sm),a,b,c,d,e]) (L:Lw H' s' dk cl sm cs (p+1+i) st') (h1:s'.sc=s.sc) (h2:s'.rows=s.rows) (h3:s'.cols=s.cols) (h4:st'.length=st.length+i)
theorem zi7 {dk cl sm p:Nat} {cs:List Nat} {st:List (Nat × Nat)} (L:Lw H s dk cl sm cs p st) (hp:p≤800) (hn:st.length≤50) :
  zae W 14 (.ref 1531) [.ref dk,.ref s.sc,.ref sm] H (PGr s dk cl sm cs p st):=by
 refine zlw _ _ _ ?_
 unfold zgy
 walk_at "r"
 refine zas ((zdB (b:=7) L.deck (lin (.l K1 (.k 7)) [] rfl) (zag (.i (.l Va (.k 800)) (.l Va (.k 900))) rfl hp)).tu rfl) rfl ?_
 rintro _ _ ⟨v,hv,rfl,rfl⟩
 have L1:=L.take (p+1)
 walk_at "r"
 refine Run.fr (l:=(List.range (1+(v:Int)).toNat).map fun (i:Nat)=>V.int (i:Int)) (args:=[.int (1+(v:Int))])
  (J:=JGr s dk cl sm cs p st) (Z:=fun _ _=>False) rfl rfl ⟨s,st,_,_,_,_,_,rfl,L1,rfl,rfl,rfl,rfl⟩ (fun i ρ H' _ _=>⟨by exact zag (.L (.g (.k 1000)) (.a K1 (.c Va))) rfl,by exact zag (.i (.t Va (.k 7)) (.L (.a K1 (.c Va)) (.k 1000))) rfl hv,rfl⟩) (fun i x ρ H' hx hj=>?_) ?_ (fun _ _ z=>z.elim)
 ·obtain ⟨s',st',a,b,c,d,e,rfl,L2,q1,q2,q3,q4⟩:=hj
  have hi:i < 7:=by
   by_cases q:i < (1+(v:Int)).toNat
   ·exact zad (.i (.t Va (.k 7)) (.i (.t Vb (.t (.a K1 (.c Va)))) (.t Vb (.k 7)))) rfl hv q
   ·rw [List.getElem?_eq_none (by simp; exact zad (.i (.n (.t Va (.t (.a K1 (.c Vb))))) (.L (.a K1 (.c Vb)) (.c Va))) rfl q)] at hx; injection hx
  walk_at "c"
  refine zas ((zdB (b:=24) L2.deck (lin (.l K1 (.k 24)) [] rfl) (zad (.i (.l Va (.k 800)) (.i (.t Vb (.k 7)) (.l (.a (.a Va K1) Vb) (.k 900)))) rfl hp hi)).tu rfl) rfl ?_
  rintro _ _ ⟨u,hu,rfl,rfl⟩
  have L3:=L2.take (p+1+i+1)
  generalize zab H' dk (.dict (dkL cl (p+1+i+1)))=H3 at *
  walk_at "r"
  refine zc2 (by lia) ?_
  walk_at "r"
  refine zfv (by lia) (PyProof.noPylong_small (by decide)) ?_
  rw [show (u:Int).fmod 8=((u % 8:Nat):Int) from ze1 u 8,show (u:Int).fdiv 8=((u / 8:Nat):Int) from zkN u 8]
  refine ziH (x:=pn (u / 8)) (by simp; lia) (zba ?_) ?_
  ·have:u / 8=0∨u / 8=1∨u / 8=2:=by lia
   rcases this with q | q | q <;> rw [q] <;> rfl
  walk_at "r"
  have fin:∀ code:Nat,OkC (code,u / 8)→Run W 13 [.call 3,.pop,Y2,.mth 41,Y7,Y6,.tup 2,.call 2,.pop] [pn (u / 8),.int (code:Nat),.ref s.sc,.raw (.ref 1524)] [some (.ref dk),some (.ref s.sc),some (.ref sm),some x,some (.int u),some (.int ((u % 8:Nat):Int)),some (pn (u / 8)),some (.int (code:Nat))] H3
    (fun o=>match o with
     | .nxt [] ρ' H'=>JGr s dk cl sm cs p st (i+1) ρ' H'
     | .ret v H'=>False
     | _=>False):=fun code hcode=>by
   refine za0 ((show zae W 13 (.ref 1524) [.ref s.sc,.int code,pn (u / 8)] H3 _ by rw [← q1]; exact zjr L3.is_ L3.good (code,u / 8) hcode (zaj (.i (.l Va (.k 50)) (.i (.e Vb (.a Va Vc)) (.i (.t Vc (.k 7)) (.l Vb (.k 60))))) rfl hn q4 hi)).tu rfl) rfl ?_
   rintro _ H4 ⟨rfl,s4,I4,F4,e1,e2,e3,e4,g4⟩
   obtain ⟨sm4,L4⟩:=L3.wrote hcode I4 F4 e3 e4 g4
   walk_at "r"
   refine zbl sm4 ?_
   walk_at "r"
   refine zbe sm4 (by simp [stV]; exact zaj (.i (.l Va (.k 50)) (.i (.e Vb (.a Va Vc)) (.i (.t Vc (.k 7)) (.l Vb (.k 1000000))))) rfl hn q4 hi) ?_
   walk_at "r"
   exact Run.nil ⟨s4,st'++[(code,u / 8)],_,_,_,_,_,rfl,L4,e1.trans q1,e2.trans q2,e3.trans q3,by simp; exact zaj (.i (.e Va (.a Vb Vc)) (.e (.a Va K1) (.a Vb (.a Vc K1)))) rfl q4⟩
  have sml:(stV st').length≤1000000:=by simp [stV]; exact zaj (.i (.l Va (.k 50)) (.i (.e Vb (.a Va Vc)) (.i (.t Vc (.k 7)) (.l Vb (.k 1000000))))) rfl hn q4 hi
  have ml:∀ n:Nat,97≤97+n % 26∧97+n % 26≤122:=fun n=>by lia
  by_cases k1:u % 8 < 4
  ·refine r_t (decide_eq_true (zag (.i (.t Va (.k 4)) (.T (.c Va) (.k 4))) rfl k1)) ?_
   walk_at "c"
   refine zcK L3.stm sml ?_
   walk_at "r"
   refine zc2 (by lia) ?_
   rw [show ((stV st').length:Int).fmod 26=(((stV st').length % 26:Nat):Int) from ze1 _ 26]
   walk_at "r"
   rw [show (97:Int)+(((stV st').length % 26:Nat):Int)=((97+(stV st').length % 26:Nat):Int) by exact zag (.E (.a (.k 97) (.c Va)) (.c (.a (.k 97) Va))) rfl]
   walk_at "r"
   exact fin (97+(stV st').length % 26) (.inr (.inr (.inl (by dsimp only; lia))))
  ·refine r_f (decide_eq_false (zag (.i (.n (.t Va (.k 4))) (.n (.T (.c Va) (.k 4)))) rfl k1)) ?_
   walk_at "c"
   by_cases k2:u % 8 < 6
   ·refine r_t (decide_eq_true (zag (.i (.t Va (.k 6)) (.T (.c Va) (.k 6))) rfl k2)) ?_
    walk_at "c"
    refine zcK L3.stm sml ?_
    walk_at "r"
    refine zc2 (by lia) ?_
    rw [show ((stV st').length:Int).fmod 26=(((stV st').length % 26:Nat):Int) from ze1 _ 26]
    walk_at "r"
    rw [show (19968:Int)+(((stV st').length % 26:Nat):Int)=((19968+(stV st').length % 26:Nat):Int) by exact zag (.E (.a (.k 19968) (.c Va)) (.c (.a (.k 19968) Va))) rfl]
    walk_at "r"
    exact fin (19968+(stV st').length % 26) (.inr (.inr (.inr (by dsimp only; lia))))
   ·refine r_f (decide_eq_false (zag (.i (.n (.t Va (.k 6))) (.n (.T (.c Va) (.k 6)))) rfl k2)) ?_
    walk_at "c"
    by_cases k3:u % 8=6
    ·refine r_t (by simp; lia) ?_
     walk_at "c"
     exact fin 769 (.inr (.inl rfl))
    ·refine r_f (by simp; lia) ?_
     walk_at "c"
     exact fin 0 (.inl rfl)
 ·rintro ρ H' ⟨s',st',a,b,c,d,e,rfl,L2,q1,q2,q3,q4⟩
  rw [List.length_map,List.length_range] at L2 q4
  exact Run.nil ⟨rfl,s',st',_,L2,q1,q2,q3,by exact zad (.i (.t Va (.k 7)) (.l (.a (.a Vb K1) (.t (.a K1 (.c Va)))) (.a Vb (.k 8)))) rfl hv,by exact zaj (.i (.t Va (.k 7)) (.i (.e Vb (.a Vc (.t (.a K1 (.c Va))))) (.l Vb (.a Vc (.k 7))))) rfl hv q4⟩
end
noncomputable def c3 (c:zaa):V:=.tup [.tup (isV c.cs),.int (c.w:Int),pn c.k]
noncomputable def d3 (c:zaa):PyData:=.tuple [.tuple (isD c.cs),.int (c.w:Int),pd c.k]
theorem zkv {H:Hp} {n:Nat} (c:zaa):Dat H (n+2) (c3 c) (d3 c):=.tup (.cons (.tup (zdj _)) (.cons .int (.cons (zdR _) .nil)))
theorem zeP {H:Hp} {n:Nat}:∀ l:List zaa,zaS H (n+2) (l.map c3) (l.map d3)
 | []=>.nil
 | c::l=>.cons (zkv c) (zeP l)
theorem zhG (l:List PyData):PyData.eqv (.list l) (.list [])=l.isEmpty:=by rcases l with _ | _ <;> simp [PyData.eqv,PyData.eqvAll]
theorem zcn (l:List V) (x:V):at? (l++[x]) (-1)=some x:=by
 unfold at?
 rw [if_pos (by decide),if_pos (by simp; exact zag (.L K1 (.a (.c Va) K1)) rfl),show (-1+((l++[x]).length:Int)).toNat=l.length by simp; exact zag (.e (.t (.a (.g K1) (.a (.c Va) K1))) Va) rfl]
 simp
structure Txs (H0 H:Hp) (t:Nat) (ds:List Nat) (la:Nat) (x:TX):Prop where
 top:H t=some (.list (ds.map V.ref++[.ref la]))
 d:ds.length=x.1.length
 at_:∀ (j a:Nat) (u:List zaa),ds[j]?=some a→x.1[j]?=some u→H a=some (.list (u.map c3))
 l:H la=some (.list (x.2.map c3))
 ne:t ∉ ds∧la ∉ ds∧t≠la
 new:H0 t=none∧H0 la=none
 ext:Ext H0 H
theorem Txs.get {H0 H:Hp} {t la:Nat} {ds:List Nat} {x:TX} (h:Txs H0 H t ds la x) {j a:Nat} (ha:ds[j]?=some a):∃ u:List zaa,H a=some (.list (u.map c3)):=by
 obtain ⟨lt,_⟩:=List.getElem?_eq_some_iff.mp ha
 have:=h.d
 exact ⟨x.1[j]'(zaj (.i (.t Va Vb) (.i (.e Vb Vc) (.t Va Vc))) rfl lt this),h.at_ j a _ ha (List.getElem?_eq_getElem _)⟩
theorem zd2 {α:Type} {l:List α} {a:α} {j:Nat} (h:l[j]?=some a):a ∈ l:=List.mem_of_getElem? h
theorem Txs.push {H0 H H1:Hp} {t la c:Nat} {ds:List Nat} {x:TX} (h:Txs H0 H t ds la x) (hc:H c=none) (e:H1 c=some (.list [])) (E:Ext H H1):Txs H0 (zab H1 t (.list (ds.map V.ref++[.ref la]++[.ref c]))) t (ds++[la]) c (x.1++[x.2],[]):=by
 have tc:t≠c:=zal h.top hc
 have lc:la≠c:=zal h.l hc
 refine ⟨by rw [zai]; simp,by simp [h.d],fun j a u ha hu=>?_,zak e tc.symm,⟨?_,?_,tc⟩,⟨h.new.1,zaE h.ext hc⟩,(h.ext.trans E).upd h.new.1⟩
 ·have hd:=h.d
  by_cases q:j < ds.length
  ·rw [List.getElem?_append_left q] at ha
   rw [List.getElem?_append_left (by exact zaj (.i (.e Va Vb) (.i (.t Vc Va) (.t Vc Vb))) rfl hd q)] at hu
   refine zak (E _ _ (h.at_ j a u ha hu)) fun z=>h.ne.1 (z ▸ zd2 ha)
  ·rw [List.getElem?_append_right (by lia)] at ha hu
   have:j - ds.length=0:=by
    obtain ⟨lt,_⟩:=List.getElem?_eq_some_iff.mp ha
    simp at lt; exact zad (.i (.e (.s Va Vb) K0) (.e (.s Va Vb) K0)) rfl lt
   rw [this] at ha; rw [show j - x.1.length=0 by exact zaj (.i (.e Va Vb) (.i (.e (.s Vc Va) K0) (.e (.s Vc Vb) K0))) rfl hd this] at hu
   simp at ha hu
   subst ha hu
   exact zak (E _ _ h.l) h.ne.2.2.symm
 ·intro z
  rcases List.mem_append.mp z with z | z
  ·exact h.ne.1 z
  ·exact h.ne.2.2 (List.mem_singleton.mp z)
 ·intro z
  rcases List.mem_append.mp z with z | z
  ·obtain ⟨j,hj⟩:=List.getElem?_of_mem z
   obtain ⟨u,hu⟩:=h.get hj
   rw [hc] at hu; injection hu
  ·exact lc (List.mem_singleton.mp z).symm
theorem Txs.set {H0 H:Hp} {t la:Nat} {ds:List Nat} {x:TX} (h:Txs H0 H t ds la x) (u:List zaa):Txs H0 (zab H la (.list (u.map c3))) t ds la (x.1,u):=
 ⟨zak h.top h.ne.2.2,h.d,fun j a v ha hv=>zak (h.at_ j a v ha hv) fun z=>h.ne.2.1 (z ▸ zd2 ha),zai,h.ne,h.new,h.ext.upd h.new.2⟩
section
variable {W:Wx} {H:Hp}
inductive PTx (st:List (Nat × Nat)) (H:Hp) (x:V) (H':Hp):Prop
 | mk (t:Nat) (ds:List Nat) (la:Nat) (e:x=.ref t) (T:Txs H H' t ds la (zaK st))
inductive JTx (sm t:Nat) (X:TX) (H:Hp) (ρ:Ro) (H':Hp):Prop
 | mk (ds:List Nat) (la:Nat) (a b c d e:Option V) (hρ:ρ=[some (.ref sm),some (.ref t),a,b,c,d,e]) (T:Txs H H' t ds la X)
theorem zpS {sm:Nat} {st:List (Nat × Nat)} (hsm:H sm=some (.list (stV st))) (hn:st.length≤60) (hok:∀ e ∈ st,OkC e) :
  zae W 1 (.ref 1538) [.ref sm] H (PTx st H):=by
 refine zlx _ ?_
 unfold zgz
 refine zbk fun la H1 f1 g1 E1=>?_
 refine zdw fun t H2 f2 g2 E2=>?_
 walk_at "r"
 have lt:la≠t:=zal g1 f2
 have T0:Txs H H2 t [] la (zaK (st.take 0)):=⟨g2,rfl,by simp,E2 _ _ g1,⟨by simp,by simp,lt.symm⟩,⟨zaE E1 f2,f1⟩,E1.trans E2⟩
 refine Run.fr (l:=stV st) (args:=[.ref sm]) (J:=fun i ρ H'=>JTx sm t (zaK (st.take i)) H ρ H') (Z:=fun _ _=>False) rfl rfl ⟨[],la,_,_,_,_,_,rfl,T0⟩ (fun i ρ H' _ hj=>?_) (fun i x ρ H' hx hj=>?_) ?_ (fun _ _ z=>z.elim)
 ·obtain ⟨ds,la,_,_,_,_,_,_,T⟩:=hj
  exact T.ext _ _ hsm
 ·obtain ⟨ds,la,a,b,c,d,e,rfl,T⟩:=hj
  have hi:i < st.length:=by
   by_cases q:i < st.length
   ·exact q
   ·rw [List.getElem?_eq_none (by simp [stV]; exact zad (.i (.n (.t Va Vb)) (.l Vb Va)) rfl q)] at hx; injection hx
  have ei:=List.getElem?_eq_getElem hi
  have hx':x=.tup [.int ((st[i]'hi).1:Nat),pn (st[i]'hi).2]:=by
   unfold stV at hx; rw [List.getElem?_map,ei] at hx; cases hx; rfl
  have et:zaK (st.take (i+1))=zci (zaK (st.take i)) (st[i]'hi):=by
   rw [zbW ei]; exact zjy _ _
  have ho:=hok _ (List.getElem_mem hi)
  have ox:=zdq (st.take i)
  have ol:(st.take i).length≤60:=by simp; exact zad (.i (.l Va (.k 60)) (.l (.m Vb Va) (.k 60))) rfl hn
  rw [et]
  generalize st[i]'hi=ev at *
  generalize zaK (st.take i)=tx at *
  have osz:=ox.sz
  unfold zaU at osz
  subst hx'
  have top:=T.top
  have tl:(ds.map V.ref++[V.ref la]).length≤1000000:=by have:=T.d; simp; exact za6 (.i (.l Va (.k 60)) (.i (.l (.a (.a Vb Vc) Vd) Va) (.i (.e Ve Vc) (.l Ve (.k 999999))))) rfl ol osz this
  have hla:=T.l
  walk_at "c"
  unfold zci
  by_cases k1:ev.1=0
  ·rw [if_pos k1]
   refine r_t (by simp; exact zag (.i (.e Va K0) (.e Va K0)) rfl k1) ?_
   walk_at "c"
   refine zbl top ?_
   refine zbk fun cn H4 f4 g4 E4=>?_
   refine zbe (E4 _ _ top) tl ?_
   walk_at "r"
   exact Run.nil ⟨_,_,_,_,_,_,_,rfl,T.push f4 g4 E4⟩
  ·rw [if_neg k1]
   refine r_f (by simp; exact zag (.i (.n (.e Va K0)) (.n (.e Va K0))) rfl k1) ?_
   walk_at "c"
   by_cases k2:ev.1=769
   ·rw [if_pos k2]
    refine r_f (by simp; exact zag (.i (.e Va (.k 769)) (.E (.c Va) (.k 769))) rfl k2) ?_
    walk_at "c"
    refine zaB top (lin (.A (.L (.g (.k 1000)) (.g K1)) (.L (.g K1) (.k 1000))) [] rfl) (zcn _ _) ?_
    refine zbk fun cn H4 f4 g4 E4=>?_
    have T4:Txs H H4 t ds la tx:=⟨E4 _ _ top,T.d,fun j a u h1 h2=>E4 _ _ (T.at_ j a u h1 h2),E4 _ _ hla,T.ne,T.new,T.ext.trans E4⟩
    have hla4:=T4.l
    rcases List.eq_nil_or_concat tx.2 with e0 | ⟨u,c0,e0⟩
    ·refine zcg (n:=3) (m:=1) (b:=false) (.list hla4 (zeP _)) (.list g4 .nil) (lin (.l (.k 3) (.k 60)) [] rfl) (lin (.l K1 (.k 60)) [] rfl) (by rw [zhG,e0]; rfl) ?_
     walk_at "r"
     refine Run.nil ⟨ds,la,_,_,_,_,_,rfl,?_⟩
     rw [e0]
     have:=T4
     rw [show tx=(tx.1,tx.2) from rfl,e0] at this
     exact this
    ·rw [List.concat_eq_append] at e0
     refine zcg (n:=3) (m:=1) (b:=true) (.list hla4 (zeP _)) (.list g4 .nil) (lin (.l (.k 3) (.k 60)) [] rfl) (lin (.l K1 (.k 60)) [] rfl) (by rw [zhG,e0]; simp) ?_
     walk_at "r"
     refine zaB T4.top (lin (.A (.L (.g (.k 1000)) (.g K1)) (.L (.g K1) (.k 1000))) [] rfl) (zcn _ _) ?_
     refine ziM hla4 ?_
     rw [e0,List.map_append] at hla4
     refine ziP (l:=u.map c3) (x:=c3 c0) hla4 (by have:=congrArg List.length e0; simp at this ⊢; exact za6 (.i (.l Va (.k 60)) (.i (.l (.a (.a Vb Vc) Vd) Va) (.i (.e Vd (.a Ve K1)) (.l Ve (.k 1000000))))) rfl ol osz this) ?_
     have T5:=T4.set u
     unfold c3
     walk_at "r"
     refine zaB T5.top (lin (.A (.L (.g (.k 1000)) (.g K1)) (.L (.g K1) (.k 1000))) [] rfl) (zcn _ _) ?_
     refine zbl T5.l ?_
     walk_at "r"
     have cl:=(ox.t c0 (by rw [e0]; simp)).2
     refine ziC (by simp [isV]; exact zad (.i (.l Va (.k 60)) (.i (.l Vb (.a Va K1)) (.l Vb (.k 999)))) rfl ol cl) ?_
     walk_at "r"
     refine zbe T5.l (by have:=congrArg List.length e0; simp at this ⊢; exact za6 (.i (.l Va (.k 60)) (.i (.l (.a (.a Vb Vc) Vd) Va) (.i (.e Vd (.a Ve K1)) (.l Ve (.k 1000000))))) rfl ol osz this) ?_
     walk_at "r"
     refine Run.nil ⟨ds,la,_,_,_,_,_,rfl,?_⟩
     have T6:=T5.set (u++[mkC c0])
     rw [e0,zd1]
     have eq:(u++[mkC c0]).map c3=u.map c3++[.tup [.tup (isV c0.cs++[.int (ev.1:Nat)]),.int c0.w,pn c0.k]]:=by
      rw [k2]; simp [c3,mkC,isV]
     rw [eq] at T6
     exact T6
   ·rw [if_neg k2]
    refine r_t (by simp; exact zag (.i (.n (.e Va (.k 769))) (.n (.E (.c Va) (.k 769)))) rfl k2) ?_
    walk_at "c"
    refine zaB top (lin (.A (.L (.g (.k 1000)) (.g K1)) (.L (.g K1) (.k 1000))) [] rfl) (zcn _ _) ?_
    refine zbl hla ?_
    walk_at "r"
    have T6:=T.set (tx.2++[sgn ev])
    have eq:(tx.2++[sgn ev]).map c3=tx.2.map c3++[.tup [.tup [.int (ev.1:Nat)],.int ((if 19968≤ev.1 then 2 else 1:Nat):Int),pn ev.2]]:=by simp [c3,sgn,isV]
    rw [eq] at T6
    by_cases k3:19968≤ev.1
    ·refine r_t (decide_eq_true (zag (.i (.l (.k 19968) Va) (.L (.k 19968) (.c Va))) rfl k3)) ?_
     walk_at "c"
     refine zbe hla (by simp; exact zaG (.i (.l Va (.k 60)) (.i (.l (.a (.a Vb Vc) Vd) Va) (.l Vd (.k 1000000)))) rfl ol osz) ?_
     walk_at "r"
     rw [if_pos k3] at T6
     exact Run.nil ⟨ds,la,_,_,_,_,_,rfl,T6⟩
    ·refine r_f (decide_eq_false (zag (.i (.n (.l (.k 19968) Va)) (.n (.L (.k 19968) (.c Va)))) rfl k3)) ?_
     walk_at "c"
     refine zbe hla (by simp; exact zaG (.i (.l Va (.k 60)) (.i (.l (.a (.a Vb Vc) Vd) Va) (.l Vd (.k 1000000)))) rfl ol osz) ?_
     walk_at "r"
     rw [if_neg k3] at T6
     exact Run.nil ⟨ds,la,_,_,_,_,_,rfl,T6⟩
 ·rintro ρ H' ⟨ds,la,a,b,c,d,e,rfl,T⟩
  rw [show (stV st).length=st.length by simp [stV],List.take_length] at T
  walk_at "r"
  exact Run.ret ⟨t,ds,la,rfl,T⟩
end
noncomputable def qv (l:Ln):List zaa × Bool:=(l.cells,l.wr)
noncomputable def cq (q:List zaa × Bool):List zaa × Bool:=(zac q.1,q.2)
noncomputable def za7 (cols:Nat) (us:List (List zaa)):List (List zaa × Bool):=us.flatMap fun u=>(zap (cut cols u)).map cq
structure zcA (H:Hp) (l:Ln):Prop where
 o:H l.a=some (.list [.ref l.c,.bool l.wr,.str (S "single")])
 cs:H l.c=some (.list (l.cells.map zaa.v))
theorem zcA.ext {H H':Hp} {l:Ln} (h:zcA H l) (e:Ext H H'):zcA H' l:=⟨e _ _ h.o,e _ _ h.cs⟩
structure Ld (H0 H:Hp) (ln:Nat) (ls:List Ln):Prop where
 top:H ln=some (.list (zah ls))
 at_:∀ l ∈ ls,zcA H l
 na:(ls.map (·.a)).Nodup
 nc:(ls.map (·.c)).Nodup
 ac:∀ l ∈ ls,∀ m ∈ ls,l.a≠m.c
 nl:∀ l ∈ ls,l.a≠ln∧l.c≠ln
 new:H0 ln=none∧∀ l ∈ ls,H0 l.a=none∧H0 l.c=none
 ext:Ext H0 H
theorem Ld.push {H0 H H1 H2:Hp} {ln a c:Nat} {ls:List Ln} (h:Ld H0 H ln ls) (hc:H c=none) (e1:H1 c=some (.list [])) (E1:Ext H H1) (ha:H1 a=none) (e2:H2 a=some (.list [.ref c,.bool false,.str (S "single")])) (E2:Ext H1 H2) :
  Ld H0 (zab H2 ln (.list (zah ls++[.ref a]))) ln (ls++[⟨a,c,[],false⟩]):=by
 have ha0:H a=none:=zaE E1 ha
 have aln:a≠ln:=(zal h.top ha0).symm
 have cln:c≠ln:=(zal h.top hc).symm
 have ca:c≠a:=zal e1 ha
 have oa:∀ l ∈ ls,l.a≠a∧l.a≠c∧l.c≠a∧l.c≠c:=fun l hl=>⟨zal (h.at_ l hl).o ha0,zal (h.at_ l hl).o hc,zal (h.at_ l hl).cs ha0,zal (h.at_ l hl).cs hc⟩
 have E:=E1.trans E2
 refine ⟨by rw [zai]; simp [zah],fun l hl=>?_,?_,?_,fun l hl m hm=>?_,fun l hl=>?_,⟨h.new.1,fun l hl=>?_⟩,(h.ext.trans E).upd h.new.1⟩
 ·rcases List.mem_append.mp hl with hl | hl
  ·exact ⟨zak (E _ _ (h.at_ l hl).o) (h.nl l hl).1,zak (E _ _ (h.at_ l hl).cs) (h.nl l hl).2⟩
  ·rw [List.mem_singleton.mp hl]; exact ⟨zak e2 aln,zak (E2 _ _ e1) cln⟩
 ·rw [List.map_append,List.nodup_append]
  refine ⟨h.na,by simp,fun x hx y hy=>?_⟩
  obtain ⟨z,hz,rfl⟩:=List.mem_map.mp hx
  simp only [List.map_cons,List.map_nil,List.mem_singleton] at hy
  subst hy
  exact (oa z hz).1
 ·rw [List.map_append,List.nodup_append]
  refine ⟨h.nc,by simp,fun x hx y hy=>?_⟩
  obtain ⟨z,hz,rfl⟩:=List.mem_map.mp hx
  simp only [List.map_cons,List.map_nil,List.mem_singleton] at hy
  subst hy
  exact (oa z hz).2.2.2
 ·rcases List.mem_append.mp hl with hl | hl <;> rcases List.mem_append.mp hm with hm | hm
  ·exact h.ac l hl m hm
  ·rw [List.mem_singleton.mp hm]; exact (oa l hl).2.1
  ·rw [List.mem_singleton.mp hl]; exact (oa m hm).2.2.1.symm
  ·rw [List.mem_singleton.mp hl,List.mem_singleton.mp hm]; exact ca.symm
 ·rcases List.mem_append.mp hl with hl | hl
  ·exact h.nl l hl
  ·rw [List.mem_singleton.mp hl]; exact ⟨aln,cln⟩
 ·rcases List.mem_append.mp hl with hl | hl
  ·exact h.new.2 l hl
  ·rw [List.mem_singleton.mp hl]; exact ⟨zaE h.ext ha0,zaE h.ext hc⟩
theorem Ld.upd {H0 H H':Hp} {ln i:Nat} {ls:List Ln} {l:Ln} {cs:List zaa} {w:Bool} (h:Ld H0 H ln ls) (hi:ls[i]?=some l) (k:∀ y m,H y=some m→y≠l.a→y≠l.c→H' y=some m) (hl:zcA H' { l with cells:=cs,wr:=w }) (x:Ext H0 H') :
  Ld H0 H' ln (ls.set i { l with cells:=cs,wr:=w }):=by
 have ea:(ls.set i { l with cells:=cs,wr:=w }).map (·.a)=ls.map (·.a):=zbp hi rfl
 have ec:(ls.set i { l with cells:=cs,wr:=w }).map (·.c)=ls.map (·.c):=zbp hi rfl
 have er:zah (ls.set i { l with cells:=cs,wr:=w })=zah ls:=zbp hi rfl
 have hm:=List.mem_of_getElem? hi
 have mm:∀ y ∈ ls.set i { l with cells:=cs,wr:=w },∃ z ∈ ls,y.a=z.a∧y.c=z.c:=fun y hy=>by
  rcases zd3 hy with rfl | ⟨j,_,hj⟩
  ·exact ⟨l,hm,rfl,rfl⟩
  ·exact ⟨y,zd2 hj,rfl,rfl⟩
 refine ⟨by rw [er]; exact k _ _ h.top (h.nl l hm).1.symm (h.nl l hm).2.symm,fun y hy=>?_,by rw [ea]; exact h.na,by rw [ec]; exact h.nc,fun y hy z hz=>?_,fun y hy=>?_,⟨h.new.1,fun y hy=>?_⟩,x⟩
 ·rcases zd3 hy with rfl | ⟨j,ji,hj⟩
  ·exact hl
  ·have hy':=zd2 hj
   exact ⟨k _ _ (h.at_ y hy').o (zcW (f:=fun x:Ln=>x.a) h.na hj hi ji) (h.ac y hy' l hm),k _ _ (h.at_ y hy').cs (h.ac l hm y hy').symm (zcW (f:=fun x:Ln=>x.c) h.nc hj hi ji)⟩
 ·obtain ⟨y',h1,e1,_⟩:=mm y hy
  obtain ⟨z',h2,_,e2⟩:=mm z hz
  rw [e1,e2]; exact h.ac _ h1 _ h2
 ·obtain ⟨y',h1,e1,e2⟩:=mm y hy
  rw [e1,e2]; exact h.nl _ h1
 ·obtain ⟨y',h1,e1,e2⟩:=mm y hy
  rw [e1,e2]; exact h.new.2 _ h1
theorem Ld.cells {H0 H:Hp} {ln i:Nat} {ls:List Ln} {l:Ln} (h:Ld H0 H ln ls) (hi:ls[i]?=some l) (cs:List zaa):Ld H0 (zab H l.c (.list (cs.map zaa.v))) ln (ls.set i { l with cells:=cs }):=
 have hm:=List.mem_of_getElem? hi
 h.upd (w:=l.wr) hi (fun y m x _ q=>zak x q) ⟨zak (h.at_ l hm).o (h.ac l hm l hm),zai⟩ (h.ext.upd (h.new.2 l hm).2)
theorem Ld.wr {H0 H:Hp} {ln i:Nat} {ls:List Ln} {l:Ln} (h:Ld H0 H ln ls) (hi:ls[i]?=some l) (w:Bool):Ld H0 (zab H l.a (.list [.ref l.c,.bool w,.str (S "single")])) ln (ls.set i { l with wr:=w }):=
 have hm:=List.mem_of_getElem? hi
 h.upd (cs:=l.cells) hi (fun y m x q _=>zak x q) ⟨zai,zak (h.at_ l hm).cs (h.ac l hm l hm).symm⟩ (h.ext.upd (h.new.2 l hm).1)
theorem Ld.mono {H0 H H':Hp} {ln:Nat} {ls:List Ln} (h:Ld H0 H ln ls) (e:Ext H H'):Ld H0 H' ln ls:=⟨e _ _ h.top,fun l hl=>(h.at_ l hl).ext e,h.na,h.nc,h.ac,h.nl,h.new,h.ext.trans e⟩
theorem ziY {α:Type} (bs:List α) (l l':α):(bs++[l]).set bs.length l'=bs++[l']:=by simp
theorem zfV {α:Type} (bs:List α) (l:α):(bs++[l])[bs.length]?=some l:=by simp
theorem zoP {c:zaa} (hc:Sg c):([c.v,(zbM c.k).v]:List V).take c.w=(sgc c).map zaa.v:=by
 unfold sgc
 rcases hc.1 with q | q <;> rw [q] <;> rfl
section
variable {W:Wx} {H:Hp}
inductive zdE (H:Hp) (tx cols ln:Nat) (A:List (List zaa × Bool)) (u:List zaa) (j:Nat) (ρ:Ro) (H':Hp):Prop
 | mk (bs:List Ln) (l:Ln) (b c d e f g:Option V) (hρ:ρ=[some (.ref tx),some (.int (cols:Nat)),some (.ref ln),b,c,d,e,f,g]) (L:Ld H H' ln (bs++[l])) (h1:bs.map qv=A++(cut cols (u.take j)).1.map (fun p=>(zac p,true))) (h2:l.cells=zac (cut cols (u.take j)).2) (h3:l.wr=false)
theorem zmA {tx cols ln:Nat} {A:List (List zaa × Bool)} {u:List zaa} {j:Nat} {ρ:Ro} {H':Hp} {c:zaa} (hcols:2≤cols∧cols≤7) (hA:A.length≤200) (hu:u.length≤100) (hs:∀ c ∈ u,Sg c) (hj:u[j]?=some c) (J:zdE H tx cols ln A u j ρ H') :
  Run W 0 ([.unp 3,.sto 4,.sto 5,.sto 6]++[.lit (.raw (.builtin "len")),Y2,(iI 1),.neg,.idx,(iI 0),.idx,.call 1,Y5,.bin .Add,Y1,.cmp .Gt,.chk,.ite [iT,Y2,(iI 1),.neg,.idx,(iI 1),.sidx,Y2,.mth 41,.lst 0,iF,.lit (.str (S "single")),.lst 3,.call 2,.pop] [],Y2,(iI 1),.neg,.idx,(iI 0),.idx,.mth 42,Y4,Y5,Y6,iF,.tup 4,.tup 0,(iI 0),Y6,iF,.tup 4,.lst 2,.lit (.none),Y5,.slc,.call 2,.pop]) [c3 c] ρ H'
   (fun o=>match o with | .nxt [] ρ' H'=>zdE H tx cols ln A u (j+1) ρ' H' | .ret v H'=>False | _=>False):=by
 obtain ⟨bs,l,b,c',d,e,f,g,rfl,L,q1,q2,q3⟩:=J
 have hc:Sg c:=hs c (List.mem_of_getElem? hj)
 have ec:cut cols (u.take (j+1))=zaJ cols (cut cols (u.take j)) c:=by rw [zbW hj]; exact zcc _ _ _
 have cl:(zac (cut cols (u.take j)).2).length≤cols:=zcT hcols.1 _ fun c hc=>(hs c (List.mem_of_mem_take hc)).1
 have c1:=zdQ cols (u.take j)
 have hb:bs.length≤300:=by have:=congrArg List.length q1; simp at this c1; exact za6 (.i (.l Va (.k 200)) (.i (.l Vb (.k 100)) (.i (.e Vc (.a Va Vd)) (.i (.l Vd (.m Ve Vb)) (.l Vc (.k 300)))))) rfl hA hu this c1
 have cw:=zbR hc.1
 have lm:l ∈ bs++[l]:=by simp
 have o:=(L.at_ l lm).o
 have ocs:=(L.at_ l lm).cs
 have rf:zah (bs++[l])=zah bs++[.ref l.a]:=by rw [zb9]; rfl
 have top:=L.top
 rw [rf] at top
 have lcl:(l.cells.map zaa.v).length≤1000000:=by rw [q2]; simp; exact zad (.i (.A (.l K2 Va) (.l Va (.k 7))) (.i (.l Vb Va) (.l Vb (.k 1000000)))) rfl hcols cl
 unfold c3
 walk_at "c"
 refine zaB top (lin (.A (.L (.g (.k 1000)) (.g K1)) (.L (.g K1) (.k 1000))) [] rfl) (zcn _ _) ?_
 walk_at "r"
 refine zaB o (lin (.A (.L (.g (.k 1000)) K0) (.L K0 (.k 1000))) [] rfl) (x:=.ref l.c) rfl ?_
 refine zcK ocs lcl ?_
 walk_at "r"
 have tail:∀ {ρ:Ro} {H1:Hp} {bs:List Ln} {l:Ln} {b c':Option V},ρ=[some (.ref tx),some (.int (cols:Nat)),some (.ref ln),b,some (.tup (isV c.cs)),some (.int (c.w:Nat)),some (pn c.k),c',g]→Ld H H1 ln (bs++[l])→bs.length≤301→bs.map qv=A++(zaJ cols (cut cols (u.take j)) c).1.map (fun p=>(zac p,true))→l.cells++sgc c=zac (zaJ cols (cut cols (u.take j)) c).2→l.cells.length≤cols→l.wr=false →
   Run W 0 [Y2,(iI 1),.neg,.idx,(iI 0),.idx,.mth 42,Y4,Y5,Y6,iF,.tup 4,.tup 0,(iI 0),Y6,iF,.tup 4,.lst 2,.lit (.none),Y5,.slc,.call 2,.pop] [] ρ H1 (fun o=>match o with | .nxt [] ρ' H'=>zdE H tx cols ln A u (j+1) ρ' H' | .ret v H'=>False | _=>False):=by
  intro ρ H1 bs l b c' hρ L hb q1 q2 q4 q3
  subst hρ
  have lm:l ∈ bs++[l]:=by simp
  have o:=(L.at_ l lm).o
  have ocs:=(L.at_ l lm).cs
  have top:=L.top
  rw [show zah (bs++[l])=zah bs++[.ref l.a] by rw [zb9]; rfl] at top
  walk_at "r"
  refine zaB top (lin (.A (.L (.g (.k 1000)) (.g K1)) (.L (.g K1) (.k 1000))) [] rfl) (zcn _ _) ?_
  walk_at "r"
  refine zaB o (lin (.A (.L (.g (.k 1000)) K0) (.L K0 (.k 1000))) [] rfl) (x:=.ref l.c) rfl ?_
  refine zeh ocs ?_
  walk_at "r"
  refine zob fun n1 H2 f2 g2 E2=>?_
  walk_at "r"
  refine zbD none (some (c.w:Int)) rfl rfl g2 (by simp) (l':=(sgc c).map zaa.v) (by rw [zcZ]; exact zoP hc) fun n2 H3 f3 g3 E3=>?_
  have L3:=L.mono (E2.trans E3)
  refine zee ((L3.at_ l lm).cs) g3 (by have:=zbU hc; simp; exact zaG (.i (.A (.l K2 Va) (.l Va (.k 7))) (.i (.A (.l K1 Vb) (.l Vb K2)) (.i (.l Vc Va) (.i (.e Vd Vb) (.l (.a Vc Vd) (.k 1000000)))))) rfl hcols cw q4 this) ?_
  walk_at "r"
  have L4:=L3.cells (zfV bs l) (l.cells++sgc c)
  rw [ziY,List.map_append] at L4
  refine Run.nil ⟨bs,_,_,_,_,_,_,_,rfl,L4,?_,?_,?_⟩
  ·rw [ec]; exact q1
  ·rw [ec]; exact q2
  ·exact q3
 by_cases k:(zac (cut cols (u.take j)).2).length+c.w≤cols
 ·have e1:zaJ cols (cut cols (u.take j)) c=((cut cols (u.take j)).1,(cut cols (u.take j)).2++[c]):=by unfold zaJ; rw [if_pos k]
  refine r_f (decide_eq_false (by rw [List.length_map,q2]; exact zaj (.i (.l (.a Va Vb) Vc) (.n (.T (.c Vc) (.a (.c Va) (.c Vb))))) rfl k)) ?_
  simp only [List.nil_append]
  refine tail rfl L (zag (.i (.l Va (.k 300)) (.l Va (.k 301))) rfl hb) ?_ ?_ (by rw [q2]; exact cl) q3
  ·rw [e1]; exact q1
  ·rw [e1,zaW,za1,q2]
 ·have e1:zaJ cols (cut cols (u.take j)) c=((cut cols (u.take j)).1++[(cut cols (u.take j)).2],[c]):=by unfold zaJ; rw [if_neg k]
  refine r_t (decide_eq_true (by rw [List.length_map,q2]; exact zaj (.i (.n (.l (.a Va Vb) Vc)) (.T (.c Vc) (.a (.c Va) (.c Vb)))) rfl k)) ?_
  walk_at "c"
  refine zaB top (lin (.A (.L (.g (.k 1000)) (.g K1)) (.L (.g K1) (.k 1000))) [] rfl) (zcn _ _) ?_
  walk_at "r"
  refine zdx o (lin (.L K0 K1) [] rfl) (by simp) (by simp) ?_
  have L1:=L.wr (zfV bs l) true
  rw [ziY] at L1
  have e3:([V.ref l.c,.bool l.wr,.str (S "single")]:List V).set (1:Int).toNat (.bool true)=[.ref l.c,.bool true,.str (S "single")]:=rfl
  rw [e3]
  generalize zab H' l.a (.list [.ref l.c,.bool true,.str (S "single")])=H1 at *
  have top1:=L1.top
  walk_at "r"
  refine zbl top1 ?_
  refine zbk fun nc H2 f2 g2 E2=>?_
  walk_at "r"
  refine zeg fun na H3 f3 g3 E3=>?_
  refine zbe (E3 _ _ (E2 _ _ top1)) (by simp [zah]; exact zag (.i (.l Va (.k 300)) (.l Va (.k 999999))) rfl hb) ?_
  have L4:=L1.push f2 g2 E2 f3 g3 E3
  refine Run.pop ?_
  refine tail rfl L4 (by simp; exact zag (.i (.l Va (.k 300)) (.l Va (.k 300))) rfl hb) ?_ ?_ (by simp) rfl
  ·rw [e1,List.map_append,q1,List.map_append]
   simp [qv,q2]
  ·rw [e1,za1]; rfl
end
theorem zfM (cols:Nat) (us:List (List zaa)) (u:List zaa):za7 cols (us++[u])=za7 cols us++(zap (cut cols u)).map cq:=by simp [za7]
theorem zff (g:Gp):(zap g).map cq=g.1.map (fun p=>(zac p,true))++[(zac g.2,false)]:=by simp [zap,cq,Function.comp_def]
theorem zjC (cols:Nat) (us:List (List zaa)):(za7 cols us).length≤zaU us:=by
 have:=zh7 cols us
 unfold za7
 have e:(us.flatMap fun u=>(zap (cut cols u)).map cq)=(us.flatMap fun u=>zap (cut cols u)).map cq:=by rw [List.map_flatMap]
 rw [e,List.length_map]; exact this
theorem zjB {cols:Nat} (hc:2≤cols) (us:List (List zaa)) (hs:∀ u ∈ us,∀ c ∈ u,Sg c):∀ q ∈ za7 cols us,q.1.length≤cols:=fun q hq=>by
 unfold za7 at hq
 obtain ⟨u,hu,hq⟩:=List.mem_flatMap.mp hq
 obtain ⟨p,hp,rfl⟩:=List.mem_map.mp hq
 have:=(zfm hc u fun c hc=>(hs u hu c hc).1).len
 unfold zap at hp
 rcases List.mem_append.mp hp with hp | hp
 ·obtain ⟨z,hz,rfl⟩:=List.mem_map.mp hp
  exact this _ (List.mem_append_left _ hz)
 ·rw [List.mem_singleton.mp hp]
  exact this _ (List.mem_append_right _ (by simp))
theorem zhE {α:Type} {l:List α} {i:Nat} {x:α} (h:l[i]?=some x):l.drop i=x::l.drop (i+1):=by
 obtain ⟨lt,rfl⟩:=List.getElem?_eq_some_iff.mp h
 exact List.drop_eq_getElem_cons lt
theorem znD {α:Type} {f:α→α} {V:List α} {i:Nat} {x:α} (h:V[i]?=some x):((V.take i).map f++V.drop i).set i (f x)=(V.take (i+1)).map f++V.drop (i+1):=by
 rw [zhE h,zbW h,List.map_append,List.append_assoc]
 obtain ⟨lt,_⟩:=List.getElem?_eq_some_iff.mp h
 have e:((V.take i).map f).length=i:=by simp; exact zad (.i (.t Va Vb) (.e (.m Va Vb) Va)) rfl lt
 rw [List.set_append,if_neg (by exact zad (.i (.e Va Vb) (.n (.t Vb Va))) rfl e),e,Nat.sub_self]; rfl
section
variable {W:Wx} {H:Hp}
inductive PLd (cols:Nat) (v:List zaa) (D:List (List zaa)) (H:Hp) (x:V) (H':Hp):Prop
 | mk (ln:Nat) (ls:List Ln) (e:x=.tup [.ref ln,.int ((zac (cut cols v).2).length:Nat)]) (L:Ld H H' ln ls) (q:ls.map qv=(za7 cols (D++[v])).map (zaz cols))
inductive JLd (t cols ln:Nat) (X:List (List zaa × Bool)) (H:Hp) (ρ:Ro) (H':Hp):Prop
 | mk (ls:List Ln) (b c d e f g:Option V) (hρ:ρ=[some (.ref t),some (.int (cols:Nat)),some (.ref ln),b,c,d,e,f,g]) (L:Ld H H' ln ls) (q:ls.map qv=X)
inductive JLe (t cols ln:Nat) (v:List zaa) (X:List (List zaa × Bool)) (R:List V) (H:Hp) (ρ:Ro) (H':Hp):Prop
 | mk (ls':List Ln) (b c d e g:Option V) (hρ:ρ=[some (.ref t),some (.int (cols:Nat)),some (.ref ln),b,c,d,e,some (.int ((zac (cut cols v).2).length:Nat)),g]) (L:Ld H H' ln ls') (er:zah ls'=R) (q:ls'.map qv=X)
theorem zpr {t cols:Nat} {as:List Nat} {D:List (List zaa)} {v:List zaa} (e:H t=some (.list (as.map V.ref))) (hl:as.length=(D++[v]).length) (hU:∀ (i a:Nat) (u:List zaa),as[i]?=some a→(D++[v])[i]?=some u→H a=some (.list (u.map c3)))
  (hcols:2≤cols∧cols≤7) (hs:∀ u ∈ D++[v],∀ c ∈ u,Sg c) (hn:zaU (D++[v])≤100) :
  zae W 1 (.ref 1545) [.ref t,.int cols] H (PLd cols v D H):=by
 refine zly _ _ ?_
 unfold zgA
 refine zbk fun ln H1 f1 g1 E1=>?_
 walk_at "r"
 have L0:Ld H H1 ln []:=⟨g1,by simp,by simp,by simp,by simp,by simp,⟨f1,by simp⟩,E1⟩
 have lenU:∀ {u},u ∈ D++[v]→u.length≤100:=fun {u} hu=>by
  have:u.length≤((D++[v]).map List.length).sum:=zh9 (List.mem_map_of_mem hu)
  unfold zaU at hn; exact zaj (.i (.l (.a Va Vb) (.k 100)) (.i (.l Vc Va) (.l Vc (.k 100)))) rfl hn this
 have vl:∀ us,(∃ r,us++r=D++[v])→(za7 cols us).length≤100:=fun us ⟨r,hr⟩=>by
  have:=zjC cols us
  have:zaU us≤zaU (D++[v]):=by rw [← hr]; unfold zaU; simp; exact zaG (.l (.a Va Vb) (.a (.a Va Vc) (.a Vb Vd))) rfl
  lia
 refine Run.fr (l:=as.map V.ref) (args:=[.ref t]) (J:=fun i ρ H'=>JLd t cols ln (za7 cols ((D++[v]).take i)) H ρ H') (Z:=fun _ _=>False) rfl rfl ⟨[],_,_,_,_,_,_,rfl,L0,rfl⟩ (fun i ρ H' _ hj=>?_) (fun i x ρ H' hx hj=>?_) ?_ (fun _ _ z=>z.elim)
 ·obtain ⟨ls,_,_,_,_,_,_,_,L⟩:=hj
  exact L.ext _ _ e
 ·obtain ⟨ls,b,c,d,e0,f,g,rfl,L,q⟩:=hj
  have hi:i < as.length:=by
   by_cases z:i < as.length
   ·exact z
   ·rw [List.getElem?_eq_none (by simp; exact zad (.i (.n (.t Va Vb)) (.l Vb Va)) rfl z)] at hx; injection hx
  have ea:=List.getElem?_eq_getElem hi
  have eu:=List.getElem?_eq_getElem (show i < (D++[v]).length by exact zaj (.i (.e Va Vb) (.i (.t Vc Va) (.t Vc Vb))) rfl hl hi)
  have hx':x=.ref (as[i]'hi):=by rw [List.getElem?_map,ea] at hx; cases hx; rfl
  have ou:=hU _ _ _ ea eu
  have hum:(D++[v])[i]'(zaj (.i (.e Va Vb) (.i (.t Vc Va) (.t Vc Vb))) rfl hl hi) ∈ D++[v]:=List.getElem_mem _
  have et:=zbW eu
  rw [et,zfM]
  have vi:=vl ((D++[v]).take i) ⟨_,List.take_append_drop i _⟩
  generalize (D++[v])[i]'(zaj (.i (.e Va Vb) (.i (.t Vc Va) (.t Vc Vb))) rfl hl hi)=u at *
  generalize as[i]'hi=a at *
  subst hx'
  have top:=L.top
  have ul:=lenU hum
  have us:=hs u hum
  walk_at "c"
  refine zbl top ?_
  refine zbk fun nc H2 f2 g2 E2=>?_
  walk_at "r"
  refine zeg fun na H3 f3 g3 E3=>?_
  have hls:=congrArg List.length q
  rw [List.length_map] at hls
  refine zbe (E3 _ _ (E2 _ _ top)) (by simp [zah]; exact zad (.i (.l Va (.k 100)) (.i (.e Vb Va) (.l Vb (.k 1000000)))) rfl vi hls) ?_
  have L4:=L.push f2 g2 E2 f3 g3 E3
  generalize zab H3 ln (.list (zah ls++[.ref na]))=H4 at *
  walk_at "r"
  refine Run.fr (l:=u.map c3) (args:=[.ref a]) (J:=zdE H t cols ln (za7 cols ((D++[v]).take i)) u) (Z:=fun _ _=>False) rfl rfl ⟨ls,_,_,_,_,_,_,_,rfl,L4,by rw [q]; simp [cut],rfl,rfl⟩ (fun j ρ H' _ hj=>?_) (fun j x ρ H' hx hj=>?_) ?_ (fun _ _ z=>z.elim)
  ·obtain ⟨bs,l,_,_,_,_,_,_,_,L⟩:=hj
   exact L.ext _ _ ou
  ·obtain ⟨c,hc,rfl⟩:∃ c,u[j]?=some c∧c3 c=x:=by
    rw [List.getElem?_map] at hx
    induction z:u[j]? with
    | none=>rw [z] at hx; injection hx
    | some c=>rw [z] at hx; cases hx; exact ⟨c,rfl,rfl⟩
   exact zmA hcols (zag (.i (.l Va (.k 100)) (.l Va (.k 200))) rfl vi) ul us hc hj
  ·rintro ρ H' ⟨bs,l,b',c',d',e',f',g',hρ,L,q1,q2,q3⟩
   rw [List.length_map,List.take_length] at q1 q2
   refine Run.nil ⟨bs++[l],_,_,_,_,_,_,hρ,L,?_⟩
   rw [zff,List.map_append,q1]
   simp [qv,q2,q3]
 ·rintro ρ H' ⟨ls,b,c,d,e0,f,g,rfl,L,q⟩
  rw [List.length_map,hl,List.take_length] at q
  have hls:=congrArg List.length q
  rw [List.length_map] at hls
  have vle:=vl (D++[v]) ⟨[],by simp⟩
  have vw:=zjB hcols.1 (D++[v]) hs
  obtain ⟨bs,l,rfl,q2⟩:∃ bs l,ls=bs++[l]∧l.cells=zac (cut cols v).2:=by
   rw [zfM,zff,← List.append_assoc] at q
   rcases List.eq_nil_or_concat ls with rfl | ⟨bs,l,rfl⟩
   ·have:=congrArg List.length q; simp at this
   ·rw [List.concat_eq_append] at q ⊢
    refine ⟨bs,l,rfl,?_⟩
    rw [List.map_append] at q
    have:=List.append_inj_right' q rfl
    simp [qv] at this
    exact this.1
  have lm:l ∈ bs++[l]:=by simp
  have o:=(L.at_ l lm).o
  have ocs:=(L.at_ l lm).cs
  have top:=L.top
  have rf:zah (bs++[l])=zah bs++[.ref l.a]:=by rw [zb9]; rfl
  rw [rf] at top
  have cl:=zcT hcols.1 v fun c hc=>(hs v (by simp) c hc).1
  walk_at "r"
  refine zaB top (lin (.A (.L (.g (.k 1000)) (.g K1)) (.L (.g K1) (.k 1000))) [] rfl) (zcn _ _) ?_
  walk_at "r"
  refine zaB o (lin (.A (.L (.g (.k 1000)) K0) (.L K0 (.k 1000))) [] rfl) (x:=.ref l.c) rfl ?_
  refine zcK ocs (by rw [q2]; simp; exact zad (.i (.A (.l K2 Va) (.l Va (.k 7))) (.i (.l Vb Va) (.l Vb (.k 1000000)))) rfl hcols cl) ?_
  have ef:((l.cells.map zaa.v).length:Int)=(((zac (cut cols v).2).length:Nat):Int):=by rw [List.length_map,q2]
  rw [ef]
  walk_at "r"
  refine Run.fr (l:=zah (bs++[l])) (args:=[.ref ln]) (J:=fun i ρ H'=>JLe t cols ln v (((za7 cols (D++[v])).take i).map (zaz cols)++(za7 cols (D++[v])).drop i) (zah (bs++[l])) H ρ H') (Z:=fun _ _=>False) rfl rfl ⟨_,_,_,_,_,_,rfl,L,rfl,by rw [q]; simp⟩ (fun i ρ H' _ hj=>?_) (fun i x ρ H' hx hj=>?_) ?_ (fun _ _ z=>z.elim)
  ·obtain ⟨ls',_,_,_,_,_,_,L',er⟩:=hj
   rw [← er]; exact L'.top
  ·obtain ⟨ls',b,c,d,e1,g,rfl,L',er,q'⟩:=hj
   have hlr:ls'.length=(bs++[l]).length:=by have:=congrArg List.length er; simpa [zah] using this
   have hi:i < ls'.length:=by
    by_cases z:i < ls'.length
    ·exact z
    ·rw [List.getElem?_eq_none (by rw [← er]; simp [zah]; exact zad (.i (.n (.t Va Vb)) (.l Vb Va)) rfl z)] at hx; injection hx
   have ea:=List.getElem?_eq_getElem hi
   have hj:i < (za7 cols (D++[v])).length:=zaG (.i (.e Va Vb) (.i (.e Vc Va) (.i (.t Vd Vc) (.t Vd Vb)))) rfl hls hlr hi
   have eu:=List.getElem?_eq_getElem hj
   have hx':x=.ref (ls'[i]'hi).a:=by rw [← er] at hx; unfold zah at hx; rw [List.getElem?_map,ea] at hx; cases hx; rfl
   have hum:=vw _ (List.getElem_mem hj)
   have hst:=znD (f:=zaz cols) eu
   have hv:qv (ls'[i]'hi)=(za7 cols (D++[v]))[i]'hj:=by
    have:=congrArg (fun z=>z[i]?) q'
    simp only [List.getElem?_map,ea,Option.map_some] at this
    rw [zhE eu,List.getElem?_append_right (by simp; exact zad (.l (.m Va Vb) Va) rfl)] at this
    simp at this
    rw [show i - min i (za7 cols (D++[v])).length=0 by exact zaG (.i (.e Va Vb) (.i (.e Vc Va) (.i (.t Vd Vc) (.e (.s Vd (.m Vd Vb)) K0)))) rfl hls hlr hi] at this
    simp at this
    rw [eu] at this
    exact Option.some.inj this
   rw [← hv] at hst hum
   have ml:=List.getElem_mem hi
   generalize ls'[i]'hi=m at *
   subst hx'
   have o':=(L'.at_ m ml).o
   have oc':=(L'.at_ m ml).cs
   have mc:m.cells.length≤cols:=hum
   walk_at "c"
   refine zaB o' (by lia) (x:=.ref m.c) rfl ?_
   refine zeh oc' ?_
   walk_at "r"
   refine zdw fun n1 H2 f2 g2 E2=>?_
   walk_at "r"
   refine zaB (E2 _ _ o') (by lia) (x:=.ref m.c) rfl ?_
   refine zcK (E2 _ _ oc') (by simp; lia) ?_
   walk_at "r"
   refine ziO g2 (by rw [List.length_map]; lia) fun n2 H3 f3 g3 E3=>?_
   have L3:=L'.mono (E2.trans E3)
   refine zee ((L3.at_ m ml).cs) g3 (by simp; lia) ?_
   walk_at "r"
   have L4:=L3.cells ea (zaz cols (qv m)).1
   have ev:(zaz cols (qv m)).1.map zaa.v=m.cells.map zaa.v++List.replicate ((cols:Int) - ((m.cells.map zaa.v).length:Int)).toNat (V.tup [.tup [],.int 1,.tup [.int 0,.int (-1),.int (-1),.int (-1),.int 0],.bool false]):=by
    unfold zaz qv
    dsimp only
    rw [List.map_append,List.map_replicate,List.length_map,show ((cols:Int) - (m.cells.length:Int)).toNat=cols - m.cells.length by exact zad (.e (.t (.s (.c Va) (.c Vb))) (.s Va Vb)) rfl]
    rfl
   rw [ev] at L4
   refine Run.nil ⟨_,_,_,_,_,_,rfl,L4,(zbp (f:=fun l:Ln=>V.ref l.a) (y:={ m with cells:=(zaz cols (qv m)).1 }) ea rfl).trans er,?_⟩
   rw [← hst,← q',List.map_set]; rfl
  ·rintro ρ H' ⟨ls',b,c,d,e1,g,rfl,L',er,q'⟩
   rw [show (zah (bs++[l])).length=(za7 cols (D++[v])).length by rw [← hls]; simp [zah],List.take_length,List.drop_length,List.append_nil] at q'
   walk_at "r"
   exact Run.ret ⟨ln,ls',rfl,L',q'⟩
end
theorem Dat.ext {H H':Hp} (E:Ext H H') {n:Nat} {x:V} {e:PyData} (h:Dat H n x e):Dat H' n x e:=
 Dat.rec (motive_1:=fun n x e _=>Dat H' n x e) (motive_2:=fun n l es _=>zaS H' n l es) .none .bool .int .str (fun _=>.tup) (fun e _=>.list (E _ _ e)) .nil (fun _ _=>.cons) h
theorem zaS.ext {H H':Hp} (E:Ext H H') {n:Nat} {l:List V} {ds:List PyData} (h:zaS H n l ds):zaS H' n l ds:=
 zaS.rec (motive_1:=fun n x e _=>Dat H' n x e) (motive_2:=fun n l es _=>zaS H' n l es) .none .bool .int .str (fun _=>.tup) (fun e _=>.list (E _ _ e)) .nil (fun _ _=>.cons) h
theorem zaS.app {H:Hp} {n:Nat} {m:List V} {es:List PyData} {l:List V} {ds:List PyData} (k:zaS H n m es) (h:zaS H n l ds):zaS H n (l++m) (ds++es):=
 zaS.rec (motive_1:=fun _ _ _ _=>True) (motive_2:=fun n' l ds _=>n'=n→zaS H n' (l++m) (ds++es)) trivial trivial trivial (fun _=>trivial) (fun _ _=>trivial) (fun _ _ _=>trivial) (fun q=>q ▸ k) (fun h _ _ ih q=>.cons h (ih q)) h rfl
theorem zaS.snoc {H:Hp} {n:Nat} {l:List V} {ds:List PyData} {x:V} {d:PyData} (h:zaS H n l ds) (k:Dat H n x d):zaS H n (l++[x]) (ds++[d]):=zaS.app (.cons k .nil) h
noncomputable def dV (q:List zaa × Bool):PyData:=.list [.list (q.1.map zaa.d),.bool q.2,.str (S "single")]
theorem zeU {H:Hp} {a c:Nat} {cells:List zaa} {w:Bool} {n:Nat} (e:H a=some (.list [.ref c,.bool w,.str (S "single")])) (e':H c=some (.list (cells.map zaa.v))):Dat H (n+4) (.ref a) (dV (cells,w)):=
 .list e (.cons (.list e' (zeR _)) (.cons .bool (.cons (.str zju) .nil)))
theorem zeT {H:Hp} {n:Nat}:∀ ls:List Ln,(∀ l ∈ ls,zcA H l)→zaS H (n+4) (zah ls) ((ls.map qv).map dV)
 | [],_=>.nil
 | l::ls,h=>.cons (zeU (h l (by simp)).o (h l (by simp)).cs) (zeT ls fun m hm=>h m (by simp [hm]))
theorem zjA (cols:Nat) (x:TX):(za7 cols (x.1++[x.2])).map (zaz cols)=zaT cols (zay cols x).ls:=by
 unfold zaT TS.ls zay
 rw [zfM,zff]
 unfold za7
 congr 1
 dsimp only
 rw [List.map_append,List.map_map,List.append_assoc,List.map_flatMap]
 rfl
section
variable {W:Wx} {H:Hp}
theorem zjn {a:Nat} {ls:List Ln} (e:H a=some (.list (zah ls))) (h:∀ l ∈ ls,zaD H l) (hn:ls.length≤500) (hw:∀ l ∈ ls,l.cells.length≤500) :
  zae W 1 (.ref 1550) [.ref a] H fun x H'=>Ext H H'∧Dat H' 5 x (.list ((ls.map qv).map dV)):=by
 refine zlz _ ?_
 unfold zgB
 refine Run.has (by intro j hj; simp at hj) ?_
 walk_at "r"
 have il:(zah ls).length=ls.length:=List.length_map _
 refine Run.lc (l:=zah ls) (args:=[.ref a]) (J:=fun i acc H'=>Ext H H'∧zaS H' 4 acc (((ls.take i).map qv).map dV)) rfl rfl ⟨.rfl,.nil⟩ (fun i acc H' _ hj=>hj.1 _ _ e) (zad (.i (.l Va (.k 500)) (.i (.e Vb Va) (.l Vb (.k 1000)))) rfl hn il) (fun i x acc H' hx hac hj=>?_) (fun acc H' hac hj c hc=>?_)
 ·obtain ⟨E,D⟩:=hj
  obtain ⟨l,hl,rfl⟩:∃ l,ls[i]?=some l∧V.ref l.a=x:=by
   unfold zah at hx
   rw [List.getElem?_map] at hx
   induction z:ls[i]? with
   | none=>rw [z] at hx; injection hx
   | some l=>rw [z] at hx; cases hx; exact ⟨l,rfl,rfl⟩
  have hm:=List.mem_of_getElem? hl
  have o:=E _ _ (h l hm).o
  have oc:=E _ _ (h l hm).cs
  have ow:=hw l hm
  unfold lf at o
  walk_at "c"
  refine zef oc (by simp; exact zag (.i (.l Va (.k 500)) (.l Va (.k 1000000))) rfl ow) fun c1 H2 f2 g2 E2=>?_
  have o2:=E2 _ _ o
  walk_at "r"
  refine zeg fun c3 H3 f3 g3 E3=>?_
  refine Run.nil ⟨E.trans (E2.trans E3),?_⟩
  rw [zbW hl,List.map_append,List.map_append]
  exact (D.ext (E2.trans E3)).snoc (zeU g3 (E3 _ _ g2))
 ·obtain ⟨E,D⟩:=hj
  rw [il,List.take_length] at D
  exact Run.ret ⟨E.trans (Ext.new hc),.list zai (D.ext (Ext.new hc))⟩
theorem zjd {s:Scr} {sm:Nat} {st:List (Nat × Nat)} (I0:Is H s) (g:zaV s (zay s.cols (zaK st))) (hsm:H sm=some (.list (stV st))) (hn:st.length≤60) (hok:∀ e ∈ st,OkC e) :
  zae W 3 (.ref 1555) [.ref s.sc,.ref sm,.int s.rows,.int s.cols] H fun x H'=>x=.bool true∧Ext H H':=by
 refine zlA _ _ _ _ ?_
 unfold zez
 have ox:=zdq st
 have hcl:=I0.cl
 have hrw:=I0.rwb
 walk_at "r"
 refine zav ((zpS hsm hn hok).tu rfl) rfl ?_
 rintro _ H1 ⟨t,ds,la,rfl,T⟩
 walk_at "r"
 have sgs:∀ u ∈ (zaK st).1++[(zaK st).2],∀ c ∈ u,Sg c:=fun u hu c hc=>by
  rcases List.mem_append.mp hu with hu | hu
  ·exact (ox.d u hu c hc).1
  ·rw [List.mem_singleton.mp hu] at hc; exact (ox.t c hc).1
 have td:=T.d
 have osz:=ox.sz
 have szl:zaU ((zaK st).1++[(zaK st).2])≤100:=by rw [zfz]; exact zaj (.i (.l Va (.k 60)) (.i (.l (.a Vb Vc) Va) (.l (.a Vb (.a Vc K1)) (.k 100)))) rfl hn osz
 refine zas ((zpr (as:=ds++[la]) (D:=(zaK st).1) (v:=(zaK st).2) (by rw [T.top]; simp) (by simp; exact zad (.i (.e Va Vb) (.e Va Vb)) rfl td) (fun i a u ha hu=>?_) hcl sgs szl).tu rfl) rfl ?_
 ·by_cases q:i < ds.length
  ·rw [List.getElem?_append_left q] at ha
   rw [List.getElem?_append_left (by exact zaj (.i (.e Va Vb) (.i (.t Vc Va) (.t Vc Vb))) rfl td q)] at hu
   exact T.at_ i a u ha hu
  ·rw [List.getElem?_append_right (by lia)] at ha hu
   have:i - ds.length=0:=by
    obtain ⟨lt,_⟩:=List.getElem?_eq_some_iff.mp ha
    simp at lt; exact zad (.i (.e (.s Va Vb) K0) (.e (.s Va Vb) K0)) rfl lt
   rw [this] at ha; rw [show i - (zaK st).1.length=0 by exact zaj (.i (.e Va Vb) (.i (.e (.s Vc Va) K0) (.e (.s Vc Vb) K0))) rfl td this] at hu
   simp at ha hu
   subst ha hu
   exact T.l
 rintro _ H2 ⟨ln,ls,rfl,L,hv⟩
 have E2:Ext H H2:=T.ext.trans L.ext
 have vlen:=zjC s.cols ((zaK st).1++[(zaK st).2])
 have lsl:ls.length=(za7 s.cols ((zaK st).1++[(zaK st).2])).length:=by have:=congrArg List.length hv; simpa using this
 rw [zjA] at hv
 have farE:((zac (cut s.cols (zaK st).2).2).length:Int)=(((zay s.cols (zaK st)).ls.2.length:Nat):Int):=rfl
 rw [farE]
 generalize zay s.cols (zaK st)=la' at *
 obtain ⟨⟨lv,first,row,col,wait,plen,wf⟩,_⟩:=g
 rw [← hv] at lv
 have nl:ls.length=la'.ls.1.length+1:=by have:=congrArg List.length hv; simpa [zaT] using this
 have I2:=I0.ext E2
 have h1:=I2.sc
 have h2:=I2.gr
 have h3:=I2.hi
 have h4:=I2.cu
 have top:=L.top
 have hm:ls.length≤100:=by exact zaj (.i (.l Va (.k 100)) (.i (.l Vb Va) (.i (.e Vc Vb) (.l Vc (.k 100))))) rfl szl vlen lsl
 have il:(zah ls).length=ls.length:=List.length_map _
 have iB:(zah ls).length≤1000000:=il ▸ zfi hm (by decide)
 have fi:s.hist.length=ls.length - s.rows:=by rw [nl]; exact first
 have ghl:s.hist.map qv=(ls.map qv).take s.hist.length:=by
  have:s.lv.take s.hist.length=s.hist.map qv:=by unfold Scr.lv Scr.all; rw [List.map_append,List.take_append_of_le_length (by simp),List.take_of_length_le (by simp)]; rfl
  rw [← this,lv,List.take_append_of_le_length (by rw [List.length_map,fi]; exact Nat.sub_le _ _)]
 have ggl:s.grid.map qv=(ls.map qv).drop s.hist.length++List.replicate (s.rows - ls.length) (List.replicate s.cols zar,false):=by
  have:s.lv.drop s.hist.length=s.grid.map qv:=by unfold Scr.lv Scr.all; rw [List.map_append,List.drop_append_of_le_length (by simp),List.drop_of_length_le (by simp),List.nil_append]; rfl
  rw [← this,lv,List.drop_append_of_le_length (by rw [List.length_map,fi]; exact Nat.sub_le _ _),nl]
 walk_at "r"
 rw [il,zim,← fi]
 refine zbD (some (s.hist.length:Int)) none rfl rfl top iB (l':=zah (ls.drop s.hist.length)) (by rw [ziz,zei]) fun c3 H3 f3 g3 E3=>?_
 refine Run.has (by intro j hj; simp at hj; subst hj; exact ⟨_,rfl⟩) ?_
 have top3:=E3 _ _ top
 walk_at "r"
 rw [il]
 refine Run.lc (l:=(List.range ((s.rows:Int) - (ls.length:Int)).toNat).map fun (i:Nat)=>V.int (i:Int)) (args:=[.int ((s.rows:Int) - (ls.length:Int))]) (J:=fun i acc H'=>Ext H3 H'∧zaS H' 4 acc ((List.replicate i (List.replicate s.cols zar,false)).map dV)) rfl rfl ⟨.rfl,.nil⟩ (fun i acc H' _ hj=>⟨by exact zad (.i (.l Va (.k 100)) (.L (.g (.k 1000)) (.s (.c Vb) (.c Va)))) rfl hm,by exact zad (.i (.A (.l K1 Va) (.l Va (.k 4))) (.L (.s (.c Va) (.c Vb)) (.k 1000))) rfl hrw,rfl⟩) (by simp; exact zad (.i (.A (.l K1 Va) (.l Va (.k 4))) (.l Va (.a (.k 1000) Vb))) rfl hrw) (fun i x acc H' hx hac hj=>?_) (fun acc H' hac hj c hc=>?_)
 ·obtain ⟨E,D⟩:=hj
  show Run W 2 _ _ [none,some (.int (s.cols:Nat))] H' _
  walk_at "c"
  refine zdw fun c4 H4 f4 g4 E4=>?_
  walk_at "r"
  refine ziO g4 (zag (.i (.A (.l K2 Va) (.l Va (.k 7))) (.A (.L (.g (.k 1000)) (.c Va)) (.L (.c Va) (.k 1000)))) rfl hcl) fun c5 H5 f5 g5 E5=>?_
  walk_at "r"
  refine zeg fun c6 H6 f6 g6 E6=>?_
  refine Run.nil ⟨E.trans (E4.trans (E5.trans E6)),?_⟩
  rw [List.replicate_succ',List.map_append]
  refine (D.ext (E4.trans (E5.trans E6))).snoc (zeU g6 (E6 _ _ ?_))
  rw [g5,List.map_replicate,Int.toNat_natCast]; rfl
 obtain ⟨E,D⟩:=hj
 rw [List.length_map,List.length_range] at D
 have rpl:((s.rows:Int) - (ls.length:Int)).toNat=s.rows - ls.length:=Int.toNat_sub _ _
 rw [rpl] at D
 have E7:Ext H' (zab H' c (.list acc)):=Ext.new hc
 have g7:zab H' c (.list acc) c=some (.list acc):=zai
 have D7:=D.ext E7
 generalize zab H' c (.list acc)=H7 at *
 have accl:acc.length=s.rows - ls.length:=by rw [hac]; simp
 refine zdu (E7 _ _ (E _ _ g3)) g7 (by simp [zah]; exact zaG (.i (.A (.l K1 Va) (.l Va (.k 4))) (.i (.l Vb (.k 100)) (.i (.e Vc (.s Va Vb)) (.l (.a (.s Vb Vd) Vc) (.k 1000000))))) rfl hrw hm accl) fun c8 H8 f8 g8 E8=>?_
 have E38:Ext H3 H8:=E.trans (E7.trans E8)
 have E28:Ext H2 H8:=E3.trans E38
 have lq8:∀ l ∈ ls,zcA H8 l:=fun l hl=>(L.at_ l hl).ext E28
 have due:Dat H8 5 (.ref c8) (.list ((s.grid.map qv).map dV)):=by
  refine .list g8 ?_
  rw [ggl,List.map_append]
  refine zaS.app (D7.ext E8) ?_
  have:=zeT (n:=0) (ls.drop s.hist.length) fun l hl=>lq8 l (List.mem_of_mem_drop hl)
  rwa [List.map_drop] at this
 have I8:=I2.ext E28
 have h1:=E28 _ _ h1
 have h2:=E28 _ _ h2
 have h3:=E28 _ _ h3
 have top8:=E28 _ _ top
 walk_at "r"
 refine zcg (n:=1) (m:=1) (b:=false) (.tup (.cons .int (.cons .int (.cons .int (.cons .int .nil))))) (.tup (.cons .int (.cons .int (.cons .int (.cons .int .nil))))) (lin (.l K1 (.k 60)) [] rfl) (lin (.l K1 (.k 60)) [] rfl) (Dat.eqv_self (H:=H8) (n:=1) (x:=.tup [.int s.rows,.int s.cols,.int s.rows,.int s.cols]) (.tup (.cons .int (.cons .int (.cons .int (.cons .int .nil)))))) ?_
 walk_at "r"
 have hh:=I8.hn
 refine zav ((zjn I8.hl (fun l hl=>I8.ln l (List.mem_append_left _ hl)) (zag (.i (.l Va (.k 300)) (.l Va (.k 500))) rfl hh) (fun l hl=>by rw [I8.wid l (List.mem_append_left _ hl)]; exact zag (.i (.A (.l K2 Va) (.l Va (.k 7))) (.l Va (.k 500))) rfl hcl)).tu rfl) rfl ?_
 rintro xs H9 ⟨E9,D9⟩
 walk_at "r"
 refine zbD none (some (s.hist.length:Int)) rfl rfl (E9 _ _ top8) iB (l':=zah (ls.take s.hist.length)) (by rw [zcZ,zfw]) fun cA HA fA gA EA=>?_
 have DA:Dat HA 5 (.ref cA) (.list ((s.hist.map qv).map dV)):=by
  refine .list gA ?_
  rw [ghl]
  have:=zeT (H:=HA) (n:=0) (ls.take s.hist.length) fun l hl=>(lq8 l (List.mem_of_mem_take hl)).ext (E9.trans EA)
  rwa [List.map_take] at this
 refine zcg (b:=false) (D9.ext EA) DA (lin (.l (.k 5) (.k 60)) [] rfl) (lin (.l (.k 5) (.k 60)) [] rfl) (by rw [DA.eqv_self]; rfl) ?_
 have E8A:=E9.trans EA
 have h1:=E8A _ _ h1
 have h2:=E8A _ _ h2
 have h3:=E8A _ _ h3
 have topA:=E8A _ _ top8
 walk_at "r"
 have IA:=I8.ext E8A
 refine zav ((zjn IA.gl (fun l hl=>IA.ln l (List.mem_append_right _ hl)) (by have:=IA.gn; exact zad (.i (.A (.l K1 Va) (.l Va (.k 4))) (.i (.e Vb Va) (.l Vb (.k 500)))) rfl hrw this) (fun l hl=>by rw [IA.wid l (List.mem_append_right _ hl)]; exact zag (.i (.A (.l K2 Va) (.l Va (.k 7))) (.l Va (.k 500))) rfl hcl)).tu rfl) rfl ?_
 rintro xs2 HB ⟨EB,DB⟩
 walk_at "r"
 refine zcg (b:=false) DB (due.ext (E8A.trans EB)) (lin (.l (.k 5) (.k 60)) [] rfl) (lin (.l (.k 5) (.k 60)) [] rfl) (by rw [DB.eqv_self]; rfl) ?_
 have h1:=EB _ _ h1
 have h4:=EB _ _ (E8A _ _ (E28 _ _ h4))
 have topB:=EB _ _ topA
 walk_at "r"
 rw [il]
 have v1:V.tup [.int ((ls.length:Int) - 1 - (s.hist.length:Nat)),.int (min (((la'.ls.2.length:Nat):Int)) ((s.cols:Int) - 1)),.bool (((la'.ls.2.length:Nat):Int) == (s.cols:Int))]=.tup [.int s.row,.int s.col,.bool s.wait]:=by
  rw [zd6,← wait,nl,← row,zmX,zil _ (Nat.le_of_lt hcl.1),← col]
 rw [v1]
 refine zc0 (n:=1) (m:=1) (b:=true) (.tup (.cons .int (.cons .int (.cons .bool .nil)))) (.tup (.cons .int (.cons .int (.cons .bool .nil)))) (lin (.l K1 (.k 60)) [] rfl) (lin (.l K1 (.k 60)) [] rfl) (Dat.eqv_self (H:=HB) (n:=1) (x:=.tup [.int s.row,.int s.col,.bool s.wait]) (.tup (.cons .int (.cons .int (.cons .bool .nil))))) ?_
 exact Run.ret ⟨rfl,E2.trans (E28.trans (E8A.trans EB))⟩
end
section
variable {W:Wx} {H:Hp}
theorem Lw.refit {H0 H':Hp} {s s':Scr} {dk cl sm p:Nat} {cs:List Nat} {st:List (Nat × Nat)} (h:Lw H0 s dk cl sm cs p st) (I':Is H' s') (F:Frm s H0 s' H') (e4:s'.pen=s.pen) (g:zaV s' (zay s'.cols (zaK st))):Lw H' s' dk cl sm cs p st:=by
 obtain ⟨o1,o2,o3⟩:=h.out
 obtain ⟨a1,b1⟩:=F.out h.deck.d o1
 obtain ⟨a2,b2⟩:=F.out h.deck.c o2
 obtain ⟨a3,b3⟩:=F.out h.stm o3
 exact ⟨I',g,⟨a1,a2,h.deck.n⟩,a3,⟨b1,b2,b3⟩,h.ne,e4.trans h.pen,h.ok⟩
theorem znC {cols:Nat} (hc:2≤cols) {st:List (Nat × Nat)}:∀ q ∈ zaT cols (zay cols (zaK st)).ls,q.1.length=cols:=fun q hq=>by
 have ox:=zdq st
 rw [← zjA] at hq
 obtain ⟨z,hz,rfl⟩:=List.mem_map.mp hq
 have:=zjB hc _ (fun u hu c hc=>by
  rcases List.mem_append.mp hu with hu | hu
  ·exact (ox.d u hu c hc).1
  ·rw [List.mem_singleton.mp hu] at hc; exact (ox.t c hc).1) z hz
 unfold zaz; simp; exact zad (.i (.l Va Vb) (.e (.a Va (.s Vb Va)) Vb)) rfl this
theorem ziQ {dk cl p:Nat} {cs:List Nat} {k:List I} {Q:Out→Prop} {x0 x2 x3:Option V} {ρ:Ro} (L:Dk H dk cl cs p) (hp:p≤800) (h:∀ r c:Nat,1≤r∧r≤4→2≤c∧c≤7→Run W 14 k [] (x0::some (.ref dk)::some (.int (r:Nat))::some (.int (c:Nat))::ρ) (zab H dk (.dict (dkL cl (p+2)))) Q) :
  Run W 14 (.lit (.int 1)::.lit (.raw (.ref 1510))::Y1::(iI 4)::.call 2::.bin .Add::(iI 2)::.lit (.raw (.ref 1510))::Y1::(iI 6)::.call 2::.bin .Add::.tup 2::.unp 2::.sto 2::.sto 3::k) [] (x0::some (.ref dk)::x2::x3::ρ) H Q:=by
 walk_at "r"
 refine zas ((zdB (b:=4) L (lin (.l K1 (.k 4)) [] rfl) (zag (.i (.l Va (.k 800)) (.l Va (.k 900))) rfl hp)).tu rfl) rfl ?_
 rintro _ _ ⟨u,hu,rfl,rfl⟩
 have L1:Dk (zab H dk (.dict (dkL cl (p+1)))) dk cl cs (p+1):=⟨zai,zak L.c (zam L.c L.d rfl),L.n⟩
 walk_at "r"
 refine zas ((zdB (b:=6) L1 (lin (.l K1 (.k 6)) [] rfl) (zag (.i (.l Va (.k 800)) (.l (.a Va K1) (.k 900))) rfl hp)).tu rfl) rfl ?_
 rintro _ _ ⟨v,hv,rfl,rfl⟩
 rw [zaC]
 have:=h (1+u) (2+v) (zag (.i (.t Va (.k 4)) (.A (.l K1 (.a K1 Va)) (.l (.a K1 Va) (.k 4)))) rfl hu) (zag (.i (.t Va (.k 6)) (.A (.l K2 (.a K2 Va)) (.l (.a K2 Va) (.k 7)))) rfl hv)
 refine zfr ?_
 refine ziR (zdy ?_)
 rw [show (1:Int)+(u:Int)=((1+u:Nat):Int) from rfl,show (2:Int)+(v:Int)=((2+v:Nat):Int) from rfl]
 refine Run.sto (by simp) ?_
 refine Run.sto (by simp) ?_
 exact this
theorem ziE {s:Scr} {dk cl sm p:Nat} {cs:List Nat} {st:List (Nat × Nat)} {k:List I} {Q:Out→Prop} {x0:Option V} {ρ:Ro} (L:Lw H s dk cl sm cs p st) (hn:st.length≤60) (h:∀ H',Lw H' s dk cl sm cs p st→Run W 14 k [] (x0::some (.ref dk)::some (.int s.rows)::some (.int s.cols)::some (.ref s.sc)::some (.ref sm)::ρ) H' Q) :
  Run W 14 (.lit (.raw (.ref 1555))::Y4::Y5::Y2::Y3::.call 4::.chk::.notb::.ite [iF,.ret] []::k) [] (x0::some (.ref dk)::some (.int s.rows)::some (.int s.cols)::some (.ref s.sc)::some (.ref sm)::ρ) H Q:=by
 walk_at "r"
 refine zec ((zjd L.is_ L.good L.stm hn L.ok).tu rfl) rfl ?_
 rintro _ H' ⟨rfl,E⟩
 refine Run.chk (Run.notb (r_f rfl ?_))
 exact h _ (L.ext E)
theorem zom {s:Scr} {dk cl sm p rows cols:Nat} {cs:List Nat} {st:List (Nat × Nat)} {k:List I} {Q:Out→Prop} {x0 x6 x7 x8 x9:Option V} {ρ:Ro} (L:Lw H s dk cl sm cs p st) (hn:st.length≤60) (hr:1≤rows∧rows≤4) (hc:2≤cols∧cols≤7) (h:∀ H' s' x7 x8 x9,Lw H' s' dk cl sm cs p st→s'.sc=s.sc→s'.rows=rows→s'.cols=cols→Run W 14 k [] (x0::some (.ref dk)::some (.int rows)::some (.int cols)::some (.ref s.sc)::some (.ref sm)::x6::x7::x8::x9::ρ) H' Q) :
  Run W 14 (.lit (.raw (.ref 662))::Y4::Y2::Y3::.call 3::.unp 3::.sto 7::.sto 8::.sto 9::Y8::Y4::.sattr 33::.lit (.raw (.ref 1496))::Y4::Y2::Y3::Y7::Y9::.call 5::.pop::k) [] (x0::some (.ref dk)::some (.int rows)::some (.int cols)::some (.ref s.sc)::some (.ref sm)::x6::x7::x8::x9::ρ) H Q:=by
 have ox:=zdq st
 have y:=zmC L.is_ L.good ox (zag (.i (.l Va (.k 60)) (.l Va (.k 60))) rfl hn)
 walk_at "r"
 refine za0 ((zpK (rows:=rows) L.is_ y hc hr).tu rfl) rfl ?_
 rintro _ H1 ⟨g,gl,hh,hl,hist,grid,co,wa,rfl,R,q1,q2⟩
 rw [zc5] at q1 q2
 rw [zqk] at R ⊢
 have fl:(zaT cols (zay cols (zaK st)).ls).length=(zay cols (zaK st)).1.length+1:=by unfold zaT TS.ls; simp
 have ll:=zfb (cols:=cols) ox
 have lh:=R.lh
 refine Run.unp (l:=[.ref g,.ref hh,_]) rfl ?_
 refine Run.sto (by simp) (Run.sto (by simp) (Run.sto (by simp) ?_))
 refine Run.loc rfl (Run.loc rfl (zaq (R.ext _ _ L.is_.sc) rfl rfl ?_))
 refine Run.lit (Run.loc rfl (Run.loc rfl (Run.loc rfl (Run.loc rfl (Run.loc rfl ?_)))))
 have cl':=zcT hc.1 (zaK st).2 fun c hc=>((ox.t c hc).1).1
 refine zft ((zpf (W:=W) (r:=(zaT cols (zay cols (zaK st)).ls).length - 1 - ((zaT cols (zay cols (zaK st)).ls).length - rows)) (c:=co) (w:=wa) L.is_ R (znC hc.1) hr hc (za6 (.i (.l Va (.k 60)) (.i (.e Vb (.a Vc K1)) (.i (.l Vc Va) (.i (.e Vd (.s Vb Ve)) (.l Vd (.k 300)))))) rfl hn fl ll lh) (zad (.i (.A (.l K1 Va) (.l Va (.k 4))) (.t (.s (.s Vb K1) (.s Vb Va)) Va)) rfl hr) (zaj (.i (.A (.l K2 Va) (.l Va (.k 7))) (.i (.e Vb (.m Vc (.s Va K1))) (.t Vb Va))) rfl hc q1) (fun z=>by rw [q2,beq_iff_eq] at z; exact zaj (.i (.e Va (.m Vb (.s Vc K1))) (.i (.e Vb Vc) (.e Va (.s Vc K1)))) rfl q1 z)).tu rfl) rfl ?_
 rintro _ H2 ⟨rfl,s',I',F,e1,e2,e3,e4,e5,e6,e7,e8,e9⟩
 refine Run.pop ?_
 have gr:=zkY (s:=s) (s':=s') ox hc.1 R e2 e3 e5 e6 e7 (e8.trans q1) (e9.trans q2) hr.1 (zag (.i (.l Va (.k 60)) (.l Va (.k 400))) rfl hn)
 exact h H2 s' _ _ _ (L.refit I' F e4 (by rw [e3]; exact gr)) e1 e2 e3
end
section
variable {W:Wx} {H:Hp}
inductive zjL (H:Hp) (s:Scr) (rows cols dk cl sm:Nat) (cs:List Nat) (p:Nat) (st:List (Nat × Nat)) (sc2:Nat) (R:Ro→Prop) (i:Nat) (ρ:Ro) (H':Hp):Prop
 | mk (hR:R ρ) (t:Scr) (I:Is H' t) (g:zaV t (zay t.cols (zaK (st.take i)))) (h1:t.sc=sc2) (h2:t.rows=rows) (h3:t.cols=cols) (h4:t.pen=zds (st.take i)) (h5:∀ a ∈ t.foot,H a=none) (E:Ext H H')
theorem zmB {s:Scr} {dk cl sm p:Nat} {cs:List Nat} {st:List (Nat × Nat)} {x0 x6 x7 x8 x9 x10 x11 x12:Option V} (L:Lw H s dk cl sm cs p st) (hn:st.length≤60) :
  Run W 14 [.lit (.raw (.ref 1517)),Y2,Y3,.call 2,.sto 10,Y5,.fr .plain 1 [.unp 2,.sto 11,.sto 12] [.lit (.raw (.ref 1524)),Y10,Y11,Y12,.call 3,.pop],Y4,.attr 34,.mth 2,Y10,.attr 34,.call 2,.chk,.notb,.ite [iT] [Y4,.attr 33,.mth 2,Y10,.attr 33,.call 2,.chk,.notb],.ite [iF,.ret] [],Y4,.attr 35,.mth 2,Y10,.attr 35,.call 2,.chk,.ite [.lit (.raw (.ref 1555)),Y4,Y5,Y2,Y3,.call 4,.chk] [iF],.ret] []
   [x0,some (.ref dk),some (.int s.rows),some (.int s.cols),some (.ref s.sc),some (.ref sm),x6,x7,x8,x9,x10,x11,x12] H (zan fun x H'=>x=.bool true):=by
 have hcl:=L.is_.cl
 have hrw:=L.is_.rwb
 have stl:(stV st).length=st.length:=by simp [stV]
 walk_at "r"
 refine zas ((zjj (rows:=s.rows) (cols:=s.cols) hrw hcl).tu rfl) rfl ?_
 rintro _ H1 ⟨t0,rfl,N⟩
 walk_at "r"
 refine Run.fr (l:=stV st) (args:=[.ref sm]) (J:=zjL H s s.rows s.cols dk cl sm cs p st t0.sc fun ρ=>∃ b c,ρ=[x0,some (.ref dk),some (.int s.rows),some (.int s.cols),some (.ref s.sc),some (.ref sm),x6,x7,x8,x9,some (.ref t0.sc),b,c]) (Z:=fun _ _=>False) rfl rfl
  ⟨⟨_,_,rfl⟩,t0,N.is_,zhQ N,rfl,N.erows,N.ecols,N.cur.2.2.2,N.new,N.ext⟩ (fun i ρ H' _ hj=>?_) (fun i x ρ H' hx hj=>?_) ?_ (fun _ _ z=>z.elim)
 ·obtain ⟨_,t,_,_,_,_,_,_,_,E⟩:=hj
  exact E _ _ L.stm
 ·obtain ⟨⟨b,c,rfl⟩,t,It,g,q1,q2,q3,q4,q5,E⟩:=hj
  have hi:i < st.length:=by
   by_cases q:i < st.length
   ·exact q
   ·rw [List.getElem?_eq_none (by exact zaj (.i (.e Va Vb) (.i (.n (.t Vc Vb)) (.l Va Vc))) rfl stl q)] at hx; injection hx
  have ei:=List.getElem?_eq_getElem hi
  have hx':x=.tup [.int ((st[i]'hi).1:Nat),pn (st[i]'hi).2]:=by
   unfold stV at hx; rw [List.getElem?_map,ei] at hx; cases hx; rfl
  subst hx'
  have ho:=L.ok _ (List.getElem_mem hi)
  have et:=zbW ei
  generalize st[i]'hi=ev at *
  walk_at "c"
  refine za0 ((show zae W 13 (.ref 1524) [.ref t0.sc,.int ev.1,pn ev.2] H' _ by rw [← q1]; exact zjr It g ev ho (by simp; exact zad (.i (.l Va (.k 60)) (.l (.m Vb Va) (.k 60))) rfl hn)).tu rfl) rfl ?_
  rintro _ H2 ⟨rfl,t',I',F,e1,e2,e3,e4,g'⟩
  refine Run.pop ?_
  refine Run.nil ⟨⟨_,_,rfl⟩,t',I',by rw [et,e3]; exact g',e1.trans q1,e2.trans q2,e3.trans q3,by rw [et]; exact e4,fun a ha=>?_,fun a m h=>F.keep a m (E a m h) fun z=>?_⟩
  ·rcases F.new a ha with q | q
   ·exact q5 a q
   ·exact zaE E q
  ·rw [q5 a z] at h; injection h
 ·rintro ρ H2 ⟨⟨b,c,rfl⟩,t,It,g,q1,q2,q3,q4,q5,E⟩
  rw [stl,List.take_length] at g q4
  have L2:=L.ext E
  have I1:=L2.is_
  have gg:=L.good
  rw [q3] at g
  have lv:s.lv=t.lv:=by rw [gg.g.lv,g.g.lv,q2,q3]
  have hl:s.hist.length=t.hist.length:=by rw [gg.g.first,g.g.first,q2]
  have hv:s.hist.map qv=t.hist.map qv∧s.grid.map qv=t.grid.map qv:=by
   unfold Scr.lv Scr.all at lv
   rw [List.map_append,List.map_append] at lv
   exact List.append_inj lv (by simp [hl])
  have er:s.row=t.row:=by have:=gg.g.row; have:=g.g.row; lia
  have ec:s.col=t.col:=by rw [gg.g.col,g.g.col,q3]
  have ew:s.wait=t.wait:=by rw [gg.g.wait,g.g.wait,q3]
  have ep:s.pen=t.pen:=L.pen.trans q4.symm
  have h1:=I1.sc
  have h2:=It.sc
  unfold Scr.scF at h1 h2
  rw [q1] at h2
  have g1:=I1.gr
  have g2:=It.gr
  have g1':=g1
  unfold Scr.grF at g1'
  walk_at "r"
  have gnn:=I1.gn
  refine zas ((zpk g1 g2 I1.gl It.gl q2.symm q3.symm hv.2 (fun l hl=>I1.ln l (List.mem_append_right _ hl)) (fun l hl=>It.ln l (List.mem_append_right _ hl)) (zad (.i (.A (.l K1 Va) (.l Va (.k 4))) (.i (.e Vb Va) (.l Vb (.k 1000)))) rfl hrw gnn)).tu rfl) rfl ?_
  rintro _ H3 ⟨rfl,E3⟩
  have I3:=I1.ext E3
  have J3:=It.ext E3
  have h1:=E3 _ _ h1
  have h2:=E3 _ _ h2
  have f1:=I3.hi
  have f1':=f1
  unfold Scr.hiF at f1'
  walk_at "r"
  have hhn:=I1.hn
  refine zas ((zpn f1 J3.hi I3.hl J3.hl hv.1 (fun l hl=>I3.ln l (List.mem_append_left _ hl)) (fun l hl=>J3.ln l (List.mem_append_left _ hl)) (zag (.i (.l Va (.k 300)) (.l Va (.k 1000))) rfl hhn)).tu rfl) rfl ?_
  rintro _ H4 ⟨rfl,E4⟩
  have L4:=L2.ext (E3.trans E4)
  have I4:=I3.ext E4
  have J4:=J3.ext E4
  have h1:=E4 _ _ h1
  have h2:=E4 _ _ h2
  have u1:=I4.cu
  have u1':=u1
  unfold Scr.cuF at u1'
  walk_at "r"
  refine zas ((zpc u1 J4.cu er ec ew ep).tu rfl) rfl ?_
  refine zat ?_
  walk_at "r"
  refine zec ((zjd L4.is_ L4.good L4.stm hn L4.ok).tu rfl) rfl ?_
  rintro _ H5 ⟨rfl,E5⟩
  walk_at "r"
  exact Run.ret rfl
inductive JLw (a dk cl sm:Nat) (cs:List Nat) (i:Nat) (ρ:Ro) (H':Hp):Prop
 | mk (s:Scr) (p:Nat) (st:List (Nat × Nat)) (x6 x7 x8 x9:Option V) (hρ:ρ=[some (.raw (.ref a)),some (.ref dk),some (.int s.rows),some (.int s.cols),some (.ref s.sc),some (.ref sm),x6,x7,x8,x9,none,none,none]) (L:Lw H' s dk cl sm cs p st) (hp:p≤3+10 * i) (hst:st.length≤7 * i)
theorem zps {a:Nat} {xs:List Int} {vs:Array Value} {n:Nat} (e:W.h₀.get? a=some (za3 vs n)) (r:∀ K,zaf K (xs.map V.int) vs.toList) (hl:xs.length≤63):zae W 15 (.ref 1560) [.raw (.ref a)] H fun x H'=>x=.bool true:=by
 refine zlB _ ?_
 unfold zgC
 refine Run.lit ?_
 refine Run.has (by intro j hj; simp at hj) ?_
 walk_at "r"
 refine Run.slc (zoR (lo:=none) (hi:=some 63) e r (by simp; exact zag (.i (.l Va (.k 63)) (.l Va (.k 1000000))) rfl hl) (R:=fun x H'=>∃ c,x=.ref c∧H' c=some (.list (xs.map V.int))) fun c hc=>⟨c,rfl,?_⟩) ⟨a,vs,n,rfl,e⟩ ?_
 ·rw [zai]
  have:=zcZ (xs.map V.int) 63
  rw [show ((63:Nat):Int)=63 from rfl] at this
  rw [this,List.take_of_length_le (by simp; exact zag (.i (.l Va (.k 63)) (.l Va (.k 63))) rfl hl)]
 rintro _ H1 ⟨c,rfl,hc⟩
 refine Run.lc (l:=xs.map V.int) (args:=[.ref c]) (J:=fun i acc H'=>H'=H1∧∃ cs:List Nat,acc=isV cs) rfl rfl ⟨rfl,[],rfl⟩ (fun i acc H' _ hj=>by rw [hj.1]; exact hc) (by simp; exact zag (.i (.l Va (.k 63)) (.l Va (.k 1000))) rfl hl) (fun i x acc H' hx hac hj=>?_) (fun acc H' hac hj cl hcl=>?_)
 ·obtain ⟨rfl,cs,rfl⟩:=hj
  obtain ⟨v,rfl⟩:∃ v,x=.int v:=by
   rw [List.getElem?_map] at hx
   induction z:xs[i]? with
   | none=>rw [z] at hx; injection hx
   | some v=>rw [z] at hx; cases hx; exact ⟨_,rfl⟩
  walk_at "c"
  refine zn4 ?_
  walk_at "r"
  refine zc2 (by lia) ?_
  obtain ⟨u,hu,eu⟩:=ze0 v (b:=1000000000) (lin (.l K1 (.k 1000000000)) [] rfl)
  rw [show v.fmod 1000000000=(u:Int) from eu]
  exact Run.nil ⟨rfl,cs++[u],by simp [isV]⟩
 obtain ⟨rfl,cs,rfl⟩:=hj
 have csl:cs.length≤63:=by rw [List.length_map] at hac; simp [isV] at hac; exact zad (.i (.l Va (.k 63)) (.i (.e Vb Va) (.l Vb (.k 63)))) rfl hl hac
 walk_at "r"
 refine Run.dct2 (fun z=>by rw [zfo] at z; exact z) fun dk hdk=>?_
 have cdk:cl≠dk:=zal zai hdk
 have D0:Dk (zab (zab H' cl (.list (isV cs))) dk (.dict [(S "cells",.ref cl),(S "place",.int 0)])) dk cl cs 0:=⟨zai,zak zai cdk,csl⟩
 generalize zab (zab H' cl (.list (isV cs))) dk (.dict [(S "cells",.ref cl),(S "place",.int 0)])=H2 at *
 refine Run.sto (by simp) ?_
 refine ziQ D0 (lin (.l K0 (.k 800)) [] rfl) fun rows cols hr hc=>?_
 have D1:Dk (zab H2 dk (.dict (dkL cl (0+2)))) dk cl cs 2:=⟨zai,zak D0.c (zam D0.c D0.d rfl),csl⟩
 generalize zab H2 dk (.dict (dkL cl (0+2)))=H3 at *
 walk_at "r"
 refine zas ((zjj hr hc).tu rfl) rfl ?_
 rintro _ H4 ⟨s,rfl,N⟩
 refine zbk fun sm H5 f5 g5 E5=>?_
 have D5:=D1.ext (N.ext.trans E5)
 have I5:=N.is_.ext E5
 have er:=N.erows
 have ec:=N.ecols
 have exF:∀ y ∈ s.foot,∃ m,H4 y=some m:=fun y hy=>by
  unfold Scr.foot at hy
  simp only [List.mem_append,List.mem_cons,List.not_mem_nil,or_false,List.mem_map] at hy
  have I4:=N.is_
  rcases hy with (rfl | rfl | rfl | rfl | rfl | rfl) | ⟨l,hl,rfl⟩ | ⟨l,hl,rfl⟩
  ·exact ⟨_,I4.sc⟩
  ·exact ⟨_,I4.cu⟩
  ·rcases I4.md with z | ⟨_,z,_⟩ <;> exact ⟨_,z⟩
  ·exact ⟨_,I4.gr⟩
  ·exact ⟨_,I4.hl⟩
  ·exact ⟨_,I4.tb⟩
  ·exact ⟨_,(I4.ln l hl).o⟩
  ·exact ⟨_,(I4.ln l hl).cs⟩
 have L5:Lw H5 s dk cl sm cs 2 []:=⟨I5,zhQ N,D5,g5,⟨fun z=>?_,fun z=>?_,fun z=>?_⟩,?_,N.cur.2.2.2,by simp⟩
 rotate_left
 ·have:=N.new _ z; rw [D1.d] at this; injection this
 ·have:=N.new _ z; rw [D1.c] at this; injection this
 ·obtain ⟨m,hm⟩:=exF _ z; rw [hm] at f5; injection f5
 ·exact (zal (N.ext _ _ D1.c) f5).symm
 rw [← er,← ec]
 clear er ec exF I5
 walk_at "r"
 refine zas ((zdB (b:=3) L5.deck (lin (.l K1 (.k 3)) [] rfl) (lin (.l K2 (.k 900)) [] rfl)).tu rfl) rfl ?_
 rintro _ _ ⟨v,hv,rfl,rfl⟩
 have L6:=L5.take 3
 refine zfr ?_
 refine Run.fr (l:=(List.range (1+(v:Int)).toNat).map fun (i:Nat)=>V.int (i:Int)) (args:=[.int (1+(v:Int))])
  (J:=JLw a dk cl sm cs) (Z:=fun _ _=>False) rfl rfl ⟨s,3,[],_,_,_,_,rfl,L6,by exact zag (.l (.k 3) (.a (.k 3) Va)) rfl,by simp⟩ (fun i ρ H' _ _=>⟨by exact zag (.L (.g (.k 1000)) (.a K1 (.c Va))) rfl,by exact zag (.i (.t Va (.k 3)) (.L (.a K1 (.c Va)) (.k 1000))) rfl hv,rfl⟩) (fun i x ρ H' hx hj=>?_) ?_ (fun _ _ z=>z.elim)
 ·obtain ⟨s,p,st,x6,x7,x8,x9,rfl,L,hp,hst⟩:=hj
  have hi:i < 3:=by
   by_cases q:i < (1+(v:Int)).toNat
   ·exact zad (.i (.t Va (.k 3)) (.i (.t Vb (.t (.a K1 (.c Va)))) (.t Vb (.k 3)))) rfl hv q
   ·rw [List.getElem?_eq_none (by simp; exact zad (.i (.n (.t Va (.t (.a K1 (.c Vb))))) (.L (.a K1 (.c Vb)) (.c Va))) rfl q)] at hx; injection hx
  walk_at "c"
  refine za0 ((zi7 L (by lia) (by lia)).tu rfl) rfl ?_
  rintro _ H7 ⟨rfl,s7,st7,p7,L7,e1,e2,e3,e4,e5⟩
  refine Run.pop ?_
  rw [← e1,← e2,← e3]
  refine ziE L7 (by lia) fun H8 L8=>?_
  refine ziQ L8.deck (by lia) fun rows cols hr hc=>?_
  refine zom (L8.take (p7+2)) (by lia) hr hc fun H9 s9 x7 x8 x9 L9 q1 q2 q3=>?_
  rw [← q1,← q2,← q3]
  refine ziE L9 (by lia) fun HA LA=>?_
  exact Run.nil ⟨s9,p7+2,st7,_,_,_,_,rfl,LA,by lia,by lia⟩
 ·rintro ρ H' ⟨s,p,st,x6,x7,x8,x9,rfl,L,hp,hst⟩
  rw [List.length_map,List.length_range] at hp hst
  walk_at "r"
  refine za0 ((zi7 L (by lia) (by lia)).tu rfl) rfl ?_
  rintro _ H7 ⟨rfl,s7,st7,p7,L7,e1,e2,e3,e4,e5⟩
  refine Run.pop ?_
  rw [← e1,← e2,← e3]
  exact zmB L7 (by lia)
end
noncomputable abbrev lawC:ClaimW:=PySem.Challenge.rw_rh0243_01.row.toRowW.claim
theorem zms {R:WRecords}:∀ {xs:List WData},WShape.hasItems R xs .int=true→∃ ys:List Int,xs=ys.map WData.int:=by
 intro xs
 induction xs with
 | nil=>intro _; exact ⟨[],rfl⟩
 | cons x xs ih =>
  intro h
  obtain ⟨h1,h2⟩:=Bool.and_eq_true_iff.mp (show (WShape.has R x .int && WShape.hasItems R xs .int)=true from h)
  obtain ⟨ys,rfl⟩:=ih h2
  rcases x with _ | _ <;> first | exact ⟨_::ys,rfl⟩ | exact Bool.noConfusion (show false=true from h1)
theorem zk2 {R:WRecords} {x:WData} (h:WShape.has R x (.list .int)=true):∃ ys:List Int,x=.list (ys.map WData.int):=by
 rcases x with _ | _ <;> try exact Bool.noConfusion (show false=true from h)
 rename_i xs
 obtain ⟨ys,rfl⟩:=zms ((Bool.or_false _).symm.trans (show (WShape.hasItems R xs .int || false)=true from h))
 exact ⟨ys,rfl⟩
theorem znN {args:List WData} (h:lawC.pre args=true):∃ ys:List Int,args=[.list (ys.map WData.int)]∧ys.length≤63:=by
 have h':(WShape.hasAll [] args [.list .int] && PySem.Challenge.rw_rh0243_01.pre.holds [] { args:=args })=true:=h
 obtain ⟨h1,h2⟩:=Bool.and_eq_true_iff.mp h'
 match args,h1 with
 | [],h1=>simp [WShape.hasAll] at h1
 | [x],h1 =>
  simp only [WShape.hasAll] at h1
  obtain ⟨ys,rfl⟩:=zk2 (Bool.and_eq_true_iff.mp h1).1
  refine ⟨ys,rfl,?_⟩
  have h3:(WTm.and (.not (.lt (.lit (.int 63)) (.len (.arg 0)))) (.lit (.bool true))).holds [] { args:=[.list (ys.map WData.int)] }=true:=h2
  by_cases q:ys.length≤63
  ·exact q
  ·have:((63:Int) < (ys.length:Int)):=by exact zag (.i (.n (.l Va (.k 63))) (.T (.k 63) (.c Va))) rfl q
   simp [WTm.holds,WTm.value,PySem.W.less?,Num.less?,this] at h3
 | x::y::r,h1=>simp [WShape.hasAll] at h1
theorem zqn {P:Params} {h:Heap}:∀ {ys:List Int} {vs:List Value},WellAll P h vs (ys.map WData.int)→∀ K,zaf K (ys.map V.int) vs:=by
 intro ys
 induction ys with
 | nil=>intro vs w K; cases w; exact zaf.nil
 | cons y r ih =>
  intro vs w K
  cases w with
  | cons a b =>
   cases a
   exact zaf.cons (Rep.int_iff.mpr ⟨_,rfl⟩) (ih b K)
theorem znM {args ds:List WData}:lawC.post args (.bool true) ds=true:=by
 show (WShape.has [] (.bool true) .bool && (WTm.eq .res (.lit (.bool true))).holds [] { args:=args,res:=some (.bool true),after:=ds })=true
 simp [WShape.has,WShape.arms,WTm.holds,WTm.value,same]
theorem zqm {q:Program} {loose:List Str} {XP:(Str→Option Value)→Heap→Prop} {d:DefRec} {kwd:List (Str × Expr)} (hd:d.name=S "law") :
  WalkO q loose XP Mine.hook.says PySem.Challenge.rw_rh0243_01.row.toRowW d kwd fun f vs=>PySem.call f vs:=by
 intro w s₀ s₁ mg mb G Y a o pm cd doc dV kV ho hdat hcd hD hmg hg args vals as hpre hlay hrd hwl hlo
 obtain ⟨ys,rfl,hl⟩:=znN hpre
 obtain ⟨a',vs,rfl,e,r⟩:∃ a' vs,vals=[.ref a']∧s₁.heap.get? a'=some (za3 (List.toArray vs) 0)∧∀ K,zaf K (ys.map V.int) vs:=by
  cases hwl with
  | cons h1 h2 =>
   cases h2
   cases h1 with
   | list e r=>exact ⟨_,_,rfl,e,zqn r⟩
 let W:Wx:=⟨w,s₁.heap,s₁.os,q,looseW q loose,mg,mb,Y,topRead_of G.T⟩
 have S0:W.Sat (fun b=>s₁.heap.get? b) (fun _=>none) (fun _=>none) s₁:=
  ⟨fun _ _ h=>h,fun _ _ h=>h,fun _ _ h=>(nomatch h),fun _ _ h=>(nomatch h),hg,rfl,fun a=>a,⟨fun _ _ h=>(nomatch h),fun _ _ h=>(nomatch h),fun _ _ _ h=>(nomatch h),fun _ _ _ _ _ _ h=>(nomatch h)⟩⟩
 have ea:a=1560:=by
  have h1:nsIn (KF w.params) mainGlobals (S "law")=some (some (.ref 1560)):=by kernel_rfl
  have h2:=mg_of (W.frag S0) (W.top.keeps S0.stays).g h1
  rw [hd,show W.mg=mg from rfl] at *
  rw [h2] at hmg
  cases hmg; rfl
 subst ea
 have c:=(zps (W:=W) (H:=fun _=>none) (xs:=ys) (vs:=vs.toArray) (n:=0) e r hl).t
 have c1:=c callerA s₁ _ _ [.ref a'] ⟨rfl,by decide,by decide⟩ S0 (zaf.cons (Rep.raw_iff.mpr rfl) zaf.nil)
 refine wpAny_mono c1 ?_ ?_
 ·rintro v s' ⟨K',x,H',le,S',rv,rfl⟩
  rw [Rep.bool_iff.mp rv]
  exact ⟨.inl ⟨_,_,[],rfl,fun _=>rfl,ReadsW.bool true,znM,fun _=>⟨List.nodup_nil,fun _ hm=>nomatch hm⟩⟩,.of_keep S'.stays,S'.os,.of_eq S'.gens⟩
 ·intro e s' h
  exact h.elim
theorem zmE:LeftO pwp qvw loo (fun _=>true) hook.obs hook.val 20000:=
 LeftO.of_pieces (H₀:=boot_heap) (H₁:=hp1) (gs₀:=#[]) (gs₁:=#[]) (d₀:=boot_drawn) (d₁:={}) (k₀:=boot_toks) (k₁:=2329) (m₀:=11) (ann:=some (.ref 6)) (M:=12+(1+(2511+(1682+(139+(3419+(1843+2)))))))
  (boot_open (by kernel_rfl) rfl fun s=>rfl) (fun w=>by kernel_rfl) runT rfl fun w=>funext fun os=>looks_pair (lk1 w os) (looks_pair (lk2 w os) (lk3 w os))
theorem last:PySem.Challenge.rw_rh0243_01.Holds:=by
 refine holds_law said fun said2=>?_
 refine holds_open (q:=qvw) (loose:=loo) (Xt:=fun _=>true) (XP:=fun _ _=>True) (Yf:=hook.obs) (Ya:=hook.val) (YP:=hook.says) (N:=20000) zmE (Hook.of hook) (Hook.keeps hook) (fun _ _=>trivial) (fun _ _ _ _ _=>trivial) (by rfl) (by rfl) (by rfl) (fun s _=>recFacts_of rfl) (by rfl) said2 (by decide +kernel) ⟨rfl,rfl,rfl,rfl,rfl,by decide +kernel⟩ ?hw ?hc
 case hw=>w_witness2
 exact zqm rfl
end Mine
theorem PySem.Challenge.cw_rh0243_01_holds : PySem.Challenge.rw_rh0243_01.Holds :=
  Mine.last
