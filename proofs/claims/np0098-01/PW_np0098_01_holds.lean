import PyProof.Rows.All
import Wide.All
import OpenK.AllK
import Wide.FinOn
import Lean
import PySem.Challenge.RW_np0098_01
set_option Elab.async false
set_option maxRecDepth 100000
set_option linter.all false
set_option genSizeOf false
set_option bootstrap.genMatcherCode false
set_option genCtorIdx false
set_option genInjectivity false
namespace Mine

section P_Ar

set_option linter.all false
set_option genSizeOf false
set_option bootstrap.genMatcherCode false
namespace A
inductive AT where
 | n (i : Nat) | z (i : Nat) | k (c : Nat) | a (x y : AT) | s (x y : AT) | m (c : Nat) (x : AT) | u (x : AT) | t (x : AT) | g (x : AT) | i (x y : AT) | o (x y : AT)
inductive AF where
 | l (x y : AT) | t (x y : AT) | e (x y : AT) | L (x y : AT) | T (x y : AT) | E (x y : AT) | i (p q : AF) | a (p q : AF) | o (p q : AF) | f
noncomputable def lkN (ρ : List Nat) (i : Nat) : Nat := List.rec (motive := λ _ => Nat → Nat) (λ _ => 0) (λ x _ r i => Nat.rec (motive := λ _ => Nat) x (λ j _ => r j) i) ρ i
noncomputable def lkZ (ρ : List Int) (i : Nat) : Int := List.rec (motive := λ _ => Nat → Int) (λ _ => 0) (λ x _ r i => Nat.rec (motive := λ _ => Int) x (λ j _ => r j) i) ρ i
noncomputable def AT.v (ρ : List Nat) (σ : List Int) (t : AT) : Nat × Int := AT.rec (motive := λ _ => Nat × Int)
 (λ i => (lkN ρ i,0)) (λ i => (0,lkZ σ i)) (λ c => (c,Int.ofNat c)) (λ _ _ x y => (x.1 + y.1,x.2 + y.2)) (λ _ _ x y => (x.1 - y.1,x.2 - y.2))
 (λ c _ x => (c * x.1,Int.ofNat c * x.2)) (λ _ x => (0,Int.ofNat x.1)) (λ _ x => (x.2.toNat,0)) (λ _ x => (0,-x.2)) (λ _ _ x y => (min x.1 y.1,min x.2 y.2)) (λ _ _ x y => (max x.1 y.1,max x.2 y.2)) t
noncomputable def AF.v (ρ : List Nat) (σ : List Int) (F : AF) : Prop := AF.rec (motive := λ _ => Prop)
 (λ x y => (x.v ρ σ).1 ≤ (y.v ρ σ).1) (λ x y => (x.v ρ σ).1 < (y.v ρ σ).1) (λ x y => (x.v ρ σ).1 = (y.v ρ σ).1)
 (λ x y => (x.v ρ σ).2 ≤ (y.v ρ σ).2) (λ x y => (x.v ρ σ).2 < (y.v ρ σ).2) (λ x y => (x.v ρ σ).2 = (y.v ρ σ).2)
 (λ _ _ p q => p → q) (λ _ _ p q => p ∧ q) (λ _ _ p q => p ∨ q) False F
noncomputable abbrev Py := Int × List Int
noncomputable def dot (e : Nat → Int) (l : List Int) (i : Nat) : Int := List.rec (motive := λ _ => Nat → Int) (λ _ => 0) (λ x _ r i => x * e i + r (i + 1)) l i
noncomputable def pe (e : Nat → Int) (i : Nat) (p : Py) : Int := p.1 + dot e p.2 i
noncomputable def lin (c d : Int) (l m : List Int) : List Int := List.rec (motive := λ _ => List Int → List Int) (λ m => m.map (d * ·)) (λ x _ r m => List.rec (motive := λ _ => List Int) ((c * x) :: r []) (λ y m _ => (c * x + d * y) :: r m) m) l m
noncomputable def pl (c d : Int) (p q : Py) : Py := (c * p.1 + d * q.1,lin c d p.2 q.2)
theorem four (a b c d : Int) : a + b + (c + d) = a + c + (b + d) := by rw [Int.add_assoc,Int.add_assoc,Int.add_left_comm b]
theorem dot_map (e : Nat → Int) (d : Int) : ∀ m i,dot e (m.map (d * ·)) i = d * dot e m i
 | [],i => (Int.mul_zero d).symm
 | y :: m,i => by show d * y * e i + dot e (m.map (d * ·)) (i + 1) = d * (y * e i + dot e m (i + 1)); rw [dot_map e d m,Int.mul_add,Int.mul_assoc]
theorem dot_lin (e : Nat → Int) (c d : Int) : ∀ l m i,dot e (lin c d l m) i = c * dot e l i + d * dot e m i
 | [],m,i => by show dot e (m.map (d * ·)) i = c * 0 + _; rw [dot_map]; simp
 | x :: l,[],i => by
   show c * x * e i + dot e (lin c d l []) (i + 1) = c * (x * e i + dot e l (i + 1)) + d * 0
   rw [dot_lin e c d l]; show _ + (_ + d * 0) = _; rw [Int.mul_add,Int.mul_assoc]; simp
 | x :: l,y :: m,i => by
   show (c * x + d * y) * e i + dot e (lin c d l m) (i + 1) = c * (x * e i + dot e l (i + 1)) + d * (y * e i + dot e m (i + 1))
   rw [dot_lin e c d l,Int.mul_add,Int.mul_add,Int.add_mul,Int.mul_assoc,Int.mul_assoc]; exact four _ _ _ _
theorem pe_pl (e : Nat → Int) (i : Nat) (c d : Int) (p q : Py) : pe e i (pl c d p q) = c * pe e i p + d * pe e i q := by
 show c * p.1 + d * q.1 + dot e (lin c d p.2 q.2) i = c * (p.1 + dot e p.2 i) + d * (q.1 + dot e q.2 i)
 rw [dot_lin,Int.mul_add,Int.mul_add]; exact four _ _ _ _
theorem pe_add (e : Nat → Int) (i : Nat) (p q : Py) : pe e i (pl 1 1 p q) = pe e i p + pe e i q := by rw [pe_pl,Int.one_mul,Int.one_mul]
theorem pe_sub (e : Nat → Int) (i : Nat) (p q : Py) : pe e i (pl 1 (-1) p q) = pe e i p - pe e i q := by rw [pe_pl,Int.one_mul,Int.neg_one_mul]; rfl
theorem pe_sc (e : Nat → Int) (i : Nat) (c : Int) (p q : Py) : pe e i (pl 0 c p q) = c * pe e i q := by rw [pe_pl,Int.zero_mul,Int.zero_add]
noncomputable def hd (p : Py) : Int := List.rec (motive := λ _ => Int) 0 (λ x _ _ => x) p.2
noncomputable def tl (p : Py) : Py := (p.1,p.2.tail)
noncomputable def sg {α : Type} (x : Int) (z p n : α) : α := Int.rec (motive := λ _ => α) (λ k => Nat.rec (motive := λ _ => α) z (λ _ _ => p) k) (λ _ => n) x
theorem pe_hd (e : Nat → Int) (i : Nat) (p : Py) : pe e i p = hd p * e i + pe e (i + 1) (tl p) := by
 obtain ⟨c,l⟩ := p
 cases l with
 | nil => show c + 0 = 0 * e i + (c + 0); simp
 | cons x l => exact Int.add_left_comm c (x * e i) (dot e l (i + 1))
noncomputable def allOk (e : Nat → Int) (i : Nat) (cs : List Py) : Prop := ∀ p ∈ cs,0 ≤ pe e i p
noncomputable def elim (cs : List Py) : List Py :=
 (cs.filter λ p => sg (hd p) true false false).map tl ++ (cs.filter λ p => sg (hd p) false true false).flatMap λ p => (cs.filter λ q => sg (hd q) false false true).map λ q => pl (-hd q) (hd p) (tl p) (tl q)
noncomputable def fm (m : Nat) (cs : List Py) : Bool := Nat.rec (motive := λ _ => List Py → Bool) (λ cs => cs.any λ p => List.rec (motive := λ _ => Bool) (sg p.1 false false true) (λ _ _ _ => false) p.2) (λ _ r cs => r (elim cs)) m cs
theorem sg_z {x : Int} (h : sg x true false false = true) : x = 0 := by
 cases x with
 | ofNat k => cases k with
   | zero => rfl
   | succ k => cases h
 | negSucc k => cases h
theorem sg_p {x : Int} (h : sg x false true false = true) : 0 ≤ x := by
 cases x with
 | ofNat k => exact Int.natCast_nonneg k
 | negSucc k => cases h
theorem sg_n {x : Int} (h : sg x false false true = true) : x < 0 := by
 cases x with
 | ofNat k => cases k <;> cases h
 | negSucc k => exact Int.negSucc_lt_zero k
theorem elim_ok {e : Nat → Int} {i : Nat} {cs : List Py} (h : allOk e i cs) : allOk e (i + 1) (elim cs) := by
 intro r hr
 rcases List.mem_append.mp hr with hr | hr
 · obtain ⟨p,hp,rfl⟩ := List.mem_map.mp hr
   obtain ⟨hp,z⟩ := List.mem_filter.mp hp
   have a := h p hp
   rwa [pe_hd,sg_z z,Int.zero_mul,Int.zero_add] at a
 · obtain ⟨p,hp,hr⟩ := List.mem_flatMap.mp hr
   obtain ⟨q,hq,rfl⟩ := List.mem_map.mp hr
   obtain ⟨hp,zp⟩ := List.mem_filter.mp hp
   obtain ⟨hq,zq⟩ := List.mem_filter.mp hq
   have a := Int.mul_nonneg (Int.neg_nonneg_of_nonpos (Int.le_of_lt (sg_n zq))) (h p hp)
   have b := Int.mul_nonneg (sg_p zp) (h q hq)
   rw [pe_hd] at a b
   rw [pe_pl]
   have c : -hd q * (hd p * e i + pe e (i + 1) (tl p)) + hd p * (hd q * e i + pe e (i + 1) (tl q)) = -hd q * pe e (i + 1) (tl p) + hd p * pe e (i + 1) (tl q) := by
     rw [Int.mul_add,Int.mul_add,← Int.mul_assoc,← Int.mul_assoc,Int.neg_mul,Int.neg_mul,Int.mul_comm (hd q) (hd p),four,Int.add_left_neg,Int.zero_add]
   rw [← c]; exact Int.add_nonneg a b
theorem fm_ok {e : Nat → Int} : ∀ {m i : Nat} {cs : List Py},fm m cs = true → allOk e i cs → False
 | 0,i,cs,h,ok => by
   obtain ⟨p,hp,z⟩ := List.any_eq_true.mp h
   have a := ok p hp
   obtain ⟨c,l⟩ := p
   cases l with
   | nil => exact Int.not_lt.mpr (Int.add_zero c ▸ a) (sg_n z)
   | cons x l => cases z
 | m + 1,i,cs,h,ok => fm_ok (m := m) (cs := elim cs) h (elim_ok ok)
noncomputable abbrev Al := List (List Py × Py)
noncomputable def S (e : Nat → Int) (A : Al) (v : Int) : Prop := ∃ a ∈ A,allOk e 0 a.1 ∧ pe e 0 a.2 = v
noncomputable def pr (f : Py → Py → Al) (A B : Al) : Al := A.flatMap λ a => B.flatMap λ b => (f a.2 b.2).map λ r => (r.1 ++ (a.1 ++ b.1),r.2)
theorem allOk_app {e : Nat → Int} {i : Nat} {c d : List Py} (h : allOk e i c) (k : allOk e i d) : allOk e i (c ++ d) := λ p hp => (List.mem_append.mp hp).elim (h p) (k p)
theorem pr_ok {e : Nat → Int} {f : Py → Py → Al} {A B : Al} {x y v : Int} (h : S e A x) (k : S e B y) (g : ∀ p q,pe e 0 p = x → pe e 0 q = y → S e (f p q) v) : S e (pr f A B) v := by
 obtain ⟨a,ha,a1,a2⟩ := h
 obtain ⟨b,hb,b1,b2⟩ := k
 obtain ⟨r,hr,r1,r2⟩ := g _ _ a2 b2
 exact ⟨_,List.mem_flatMap.mpr ⟨a,ha,List.mem_flatMap.mpr ⟨b,hb,List.mem_map.mpr ⟨r,hr,rfl⟩⟩⟩,allOk_app r1 (allOk_app a1 b1),r2⟩
noncomputable def one (p : Py) : Al := [([],p)]
theorem one_ok {e : Nat → Int} {p : Py} {v : Int} (h : pe e 0 p = v) : S e (one p) v := ⟨_,List.mem_singleton.mpr rfl,λ _ h => absurd h List.not_mem_nil,h⟩
noncomputable def zer (n : Nat) (l : List Int) : List Int := Nat.rec (motive := λ _ => List Int) l (λ _ r => 0 :: r) n
theorem dot_zer (e : Nat → Int) (l : List Int) : ∀ n i,dot e (zer n l) i = dot e l (i + n)
 | 0,_ => rfl
 | n + 1,i => by show 0 * e i + dot e (zer n l) (i + 1) = _; rw [dot_zer e l n,Int.zero_mul,Int.zero_add,Nat.add_assoc,Nat.add_comm 1 n]
noncomputable def mon (n : Nat) : Py := (0,zer n [1])
theorem pe_mon (e : Nat → Int) (n : Nat) : pe e 0 (mon n) = e n := by
 show 0 + dot e (zer n [1]) 0 = e n
 rw [dot_zer]; show 0 + (1 * e (0 + n) + 0) = e n; simp
noncomputable def cst (c : Int) : Py := (c,[])
theorem pe_cst (e : Nat → Int) (c : Int) : pe e 0 (cst c) = c := Int.add_zero c
noncomputable def two (P Q : Py → Py → Py) (p q : Py) : Al := [([pl 1 (-1) p q],P p q),([pl 1 (-1) q p],Q p q)]
theorem two_ok {e : Nat → Int} {P Q : Py → Py → Py} {p q : Py} {v : Int} (h : pe e 0 q ≤ pe e 0 p → pe e 0 (P p q) = v) (k : pe e 0 p ≤ pe e 0 q → pe e 0 (Q p q) = v) : S e (two P Q p q) v := by
 rcases Int.le_total (pe e 0 q) (pe e 0 p) with z | z
 · exact ⟨_,.head _,λ r hr => by obtain rfl := List.mem_singleton.mp hr; rw [pe_sub]; exact Int.sub_nonneg.mpr z,h z⟩
 · exact ⟨_,.tail _ (.head _),λ r hr => by obtain rfl := List.mem_singleton.mp hr; rw [pe_sub]; exact Int.sub_nonneg.mpr z,k z⟩
noncomputable def env (ρ : List Nat) (σ : List Int) (i : Nat) : Int := Nat.rec (motive := λ _ => Bool × Nat) (true,0) (λ _ r => (!r.1,cond r.1 r.2 (r.2 + 1))) i |> λ r => cond r.1 (Int.ofNat (lkN ρ r.2)) (lkZ σ r.2)
noncomputable def AT.c (t : AT) : Al × Al := AT.rec (motive := λ _ => Al × Al)
 (λ i => (one (mon (2 * i)),one (cst 0))) (λ i => (one (cst 0),one (mon (2 * i + 1)))) (λ c => (one (cst (Int.ofNat c)),one (cst (Int.ofNat c))))
 (λ _ _ x y => (pr (λ p q => one (pl 1 1 p q)) x.1 y.1,pr (λ p q => one (pl 1 1 p q)) x.2 y.2))
 (λ _ _ x y => (pr (two (pl 1 (-1)) λ _ _ => cst 0) x.1 y.1,pr (λ p q => one (pl 1 (-1) p q)) x.2 y.2))
 (λ c _ x => (pr (λ _ q => one (pl 0 (Int.ofNat c) q q)) (one (cst 0)) x.1,pr (λ _ q => one (pl 0 (Int.ofNat c) q q)) (one (cst 0)) x.2))
 (λ _ x => (one (cst 0),x.1)) (λ _ x => (pr (two (λ p _ => p) λ _ _ => cst 0) x.2 (one (cst 0)),one (cst 0)))
 (λ _ x => (one (cst 0),pr (λ _ q => one (pl 0 (-1) q q)) (one (cst 0)) x.2))
 (λ _ _ x y => (pr (two (λ _ q => q) λ p _ => p) x.1 y.1,pr (two (λ _ q => q) λ p _ => p) x.2 y.2))
 (λ _ _ x y => (pr (two (λ p _ => p) λ _ q => q) x.1 y.1,pr (two (λ p _ => p) λ _ q => q) x.2 y.2)) t
theorem env_two (ρ : List Nat) (σ : List Int) : ∀ i,(Nat.rec (motive := λ _ => Bool × Nat) (true,0) (λ _ r => (!r.1,cond r.1 r.2 (r.2 + 1))) (2 * i) : Bool × Nat) = (true,i)
 | 0 => rfl
 | i + 1 => by
   have h := env_two ρ σ i
   show (λ r : Bool × Nat => (!r.1,cond r.1 r.2 (r.2 + 1))) ((λ r : Bool × Nat => (!r.1,cond r.1 r.2 (r.2 + 1))) (Nat.rec (motive := λ _ => Bool × Nat) (true,0) (λ _ r => (!r.1,cond r.1 r.2 (r.2 + 1))) (2 * i))) = _
   rw [h]; rfl
theorem env_n (ρ : List Nat) (σ : List Int) (i : Nat) : env ρ σ (2 * i) = lkN ρ i := congrArg (λ r : Bool × Nat => cond r.1 (Int.ofNat (lkN ρ r.2)) (lkZ σ r.2)) (env_two ρ σ i)
theorem env_z (ρ : List Nat) (σ : List Int) (i : Nat) : env ρ σ (2 * i + 1) = lkZ σ i :=
 congrArg (λ q : Bool × Nat => (λ r : Bool × Nat => cond r.1 (Int.ofNat (lkN ρ r.2)) (lkZ σ r.2)) ((!q.1,cond q.1 q.2 (q.2 + 1)) : Bool × Nat)) (env_two ρ σ i)
theorem AT.ok (ρ : List Nat) (σ : List Int) (t : AT) : S (env ρ σ) t.c.1 (t.v ρ σ).1 ∧ S (env ρ σ) t.c.2 (t.v ρ σ).2 := by
 have z := one_ok (pe_cst (env ρ σ) 0)
 induction t with
 | n i => exact ⟨one_ok ((pe_mon _ _).trans (env_n ρ σ i)),z⟩
 | z i => exact ⟨z,one_ok ((pe_mon _ _).trans (env_z ρ σ i))⟩
 | k c => exact ⟨one_ok (pe_cst _ _),one_ok (pe_cst _ _)⟩
 | a x y hx hy => exact ⟨pr_ok hx.1 hy.1 λ p q h k => one_ok (by rw [pe_add,h,k]; rfl),pr_ok hx.2 hy.2 λ p q h k => one_ok (by rw [pe_add,h,k]; rfl)⟩
 | s x y hx hy =>
   refine ⟨pr_ok hx.1 hy.1 λ p q h k => two_ok (λ l => ?_) λ l => ?_,pr_ok hx.2 hy.2 λ p q h k => one_ok (by rw [pe_sub,h,k]; rfl)⟩
   · rw [pe_sub,h,k]; rw [h,k] at l; exact (Int.ofNat_sub (Int.ofNat_le.mp l)).symm
   · rw [pe_cst]; rw [h,k] at l; exact congrArg Int.ofNat (Nat.sub_eq_zero_of_le (Int.ofNat_le.mp l)).symm
 | m c x hx => exact ⟨pr_ok (f := λ _ q => one (pl 0 (Int.ofNat c) q q)) z hx.1 λ p q h k => one_ok (by rw [pe_sc,k]; rfl),pr_ok (f := λ _ q => one (pl 0 (Int.ofNat c) q q)) z hx.2 λ p q h k => one_ok (by rw [pe_sc,k]; rfl)⟩
 | u x hx => exact ⟨z,hx.1⟩
 | t x hx =>
   refine ⟨pr_ok hx.2 z λ p q h k => two_ok (λ l => ?_) λ l => ?_,z⟩
   · rw [h]; rw [h,k] at l; exact (Int.toNat_of_nonneg l).symm
   · rw [pe_cst]; rw [h,k] at l; exact congrArg Int.ofNat (Int.toNat_eq_zero.mpr l).symm
 | g x hx => exact ⟨z,pr_ok (f := λ _ q => one (pl 0 (-1) q q)) z hx.2 λ p q h k => one_ok (by rw [pe_sc,k,Int.neg_one_mul]; rfl)⟩
 | i x y hx hy =>
   refine ⟨pr_ok hx.1 hy.1 λ p q h k => two_ok (λ l => ?_) λ l => ?_,pr_ok hx.2 hy.2 λ p q h k => two_ok (λ l => ?_) λ l => ?_⟩
   · rw [k]; rw [h,k] at l; exact congrArg Int.ofNat (Nat.min_eq_right (Int.ofNat_le.mp l)).symm
   · rw [h]; rw [h,k] at l; exact congrArg Int.ofNat (Nat.min_eq_left (Int.ofNat_le.mp l)).symm
   · rw [k]; rw [h,k] at l; exact (Int.min_eq_right l).symm
   · rw [h]; rw [h,k] at l; exact (Int.min_eq_left l).symm
 | o x y hx hy =>
   refine ⟨pr_ok hx.1 hy.1 λ p q h k => two_ok (λ l => ?_) λ l => ?_,pr_ok hx.2 hy.2 λ p q h k => two_ok (λ l => ?_) λ l => ?_⟩
   · rw [h]; rw [h,k] at l; exact congrArg Int.ofNat (Nat.max_eq_left (Int.ofNat_le.mp l)).symm
   · rw [k]; rw [h,k] at l; exact congrArg Int.ofNat (Nat.max_eq_right (Int.ofNat_le.mp l)).symm
   · rw [h]; rw [h,k] at l; exact (Int.max_eq_left l).symm
   · rw [k]; rw [h,k] at l; exact (Int.max_eq_right l).symm
noncomputable abbrev Ds := List (List Py)
noncomputable def D (e : Nat → Int) (L : Ds) : Prop := ∃ c ∈ L,allOk e 0 c
noncomputable def rl (f : Py → Py → Ds) (A B : Al) : Ds := A.flatMap λ a => B.flatMap λ b => (f a.2 b.2).map λ r => r ++ (a.1 ++ b.1)
theorem rl_ok {e : Nat → Int} {f : Py → Py → Ds} {A B : Al} {x y : Int} (h : S e A x) (k : S e B y) (g : ∀ p q,pe e 0 p = x → pe e 0 q = y → D e (f p q)) : D e (rl f A B) := by
 obtain ⟨a,ha,a1,a2⟩ := h
 obtain ⟨b,hb,b1,b2⟩ := k
 obtain ⟨r,hr,r1⟩ := g _ _ a2 b2
 exact ⟨_,List.mem_flatMap.mpr ⟨a,ha,List.mem_flatMap.mpr ⟨b,hb,List.mem_map.mpr ⟨r,hr,rfl⟩⟩⟩,allOk_app r1 (allOk_app a1 b1)⟩
noncomputable def bo (A B : Ds) : Ds := A.flatMap λ a => B.map λ b => a ++ b
theorem bo_ok {e : Nat → Int} {A B : Ds} (h : D e A) (k : D e B) : D e (bo A B) := by
 obtain ⟨a,ha,a1⟩ := h
 obtain ⟨b,hb,b1⟩ := k
 exact ⟨_,List.mem_flatMap.mpr ⟨a,ha,List.mem_map.mpr ⟨b,hb,rfl⟩⟩,allOk_app a1 b1⟩
theorem D.l {e : Nat → Int} {A B : Ds} (h : D e A) : D e (A ++ B) := let ⟨a,x,y⟩ := h; ⟨a,List.mem_append.mpr (.inl x),y⟩
theorem D.r {e : Nat → Int} {A B : Ds} (h : D e B) : D e (A ++ B) := let ⟨a,x,y⟩ := h; ⟨a,List.mem_append.mpr (.inr x),y⟩
noncomputable def le (p q : Py) : Py := pl 1 (-1) q p
noncomputable def lt (p q : Py) : Py := pl 1 (-1) q (pl 1 1 p (cst 1))
theorem le_ok {e : Nat → Int} {p q : Py} (h : pe e 0 p ≤ pe e 0 q) : 0 ≤ pe e 0 (le p q) := by unfold le; rw [pe_sub]; exact Int.sub_nonneg.mpr h
theorem lt_ok {e : Nat → Int} {p q : Py} (h : pe e 0 p < pe e 0 q) : 0 ≤ pe e 0 (lt p q) := by unfold lt; rw [pe_sub,pe_add,pe_cst]; exact Int.sub_nonneg.mpr h
noncomputable def fL (p q : Py) : Ds := [[le p q]]
noncomputable def fT (p q : Py) : Ds := [[lt p q]]
noncomputable def fE (p q : Py) : Ds := [[le p q,le q p]]
noncomputable def fN (p q : Py) : Ds := [[lt p q],[lt q p]]
theorem fL_ok {e : Nat → Int} {p q : Py} {x y : Int} (h : x ≤ y) (a : pe e 0 p = x) (b : pe e 0 q = y) : D e (fL p q) := ⟨_,.head _,λ r hr => by obtain rfl := List.mem_singleton.mp hr; exact le_ok (by rw [a,b]; first | exact h | exact Int.le_of_eq h | exact Int.le_of_eq h.symm)⟩
theorem fT_ok {e : Nat → Int} {p q : Py} {x y : Int} (h : x < y) (a : pe e 0 p = x) (b : pe e 0 q = y) : D e (fT p q) := ⟨_,.head _,λ r hr => by obtain rfl := List.mem_singleton.mp hr; exact lt_ok (by rw [a,b]; exact h)⟩
theorem fE_ok {e : Nat → Int} {p q : Py} {x y : Int} (h : x = y) (a : pe e 0 p = x) (b : pe e 0 q = y) : D e (fE p q) := ⟨_,.head _,λ r hr => by
 rcases List.mem_cons.mp hr with rfl | hr
 · exact le_ok (by rw [a,b]; first | exact h | exact Int.le_of_eq h | exact Int.le_of_eq h.symm)
 · obtain rfl := List.mem_singleton.mp hr; exact le_ok (by rw [a,b]; first | exact h | exact Int.le_of_eq h | exact Int.le_of_eq h.symm)⟩
theorem fN_ok {e : Nat → Int} {p q : Py} {x y : Int} (h : x ≠ y) (a : pe e 0 p = x) (b : pe e 0 q = y) : D e (fN p q) := by
 rcases Int.lt_or_gt_of_ne h with z | z
 · exact (fT_ok z a b).l (A := [_]) (B := [_])
 · exact (fT_ok z b a).r (A := [_]) (B := [_])
noncomputable def fl (f : Py → Py → Ds) (p q : Py) : Ds := f q p
noncomputable def AF.c (F : AF) : Ds × Ds := AF.rec (motive := λ _ => Ds × Ds)
 (λ x y => (rl fL x.c.1 y.c.1,rl (fl fT) x.c.1 y.c.1)) (λ x y => (rl fT x.c.1 y.c.1,rl (fl fL) x.c.1 y.c.1)) (λ x y => (rl fE x.c.1 y.c.1,rl fN x.c.1 y.c.1))
 (λ x y => (rl fL x.c.2 y.c.2,rl (fl fT) x.c.2 y.c.2)) (λ x y => (rl fT x.c.2 y.c.2,rl (fl fL) x.c.2 y.c.2)) (λ x y => (rl fE x.c.2 y.c.2,rl fN x.c.2 y.c.2))
 (λ _ _ p q => (p.2 ++ q.1,bo p.1 q.2)) (λ _ _ p q => (bo p.1 q.1,p.2 ++ q.2)) (λ _ _ p q => (p.1 ++ q.1,bo p.2 q.2)) ([],[[]]) F
theorem AF.ok (ρ : List Nat) (σ : List Int) (F : AF) : (F.v ρ σ → D (env ρ σ) F.c.1) ∧ (¬ F.v ρ σ → D (env ρ σ) F.c.2) := by
 induction F with
 | l x y => exact ⟨λ h => rl_ok (x.ok ρ σ).1 (y.ok ρ σ).1 λ p q => fL_ok (Int.ofNat_le.mpr h),λ h => rl_ok (x.ok ρ σ).1 (y.ok ρ σ).1 λ p q a b => fT_ok (Int.ofNat_lt.mpr (Nat.lt_of_not_le h)) b a⟩
 | t x y => exact ⟨λ h => rl_ok (x.ok ρ σ).1 (y.ok ρ σ).1 λ p q => fT_ok (Int.ofNat_lt.mpr h),λ h => rl_ok (x.ok ρ σ).1 (y.ok ρ σ).1 λ p q a b => fL_ok (Int.ofNat_le.mpr (Nat.le_of_not_lt h)) b a⟩
 | e x y => exact ⟨λ h => rl_ok (x.ok ρ σ).1 (y.ok ρ σ).1 λ p q => fE_ok (congrArg Int.ofNat h),λ h => rl_ok (x.ok ρ σ).1 (y.ok ρ σ).1 λ p q => fN_ok λ z => h (Int.ofNat.inj z)⟩
 | L x y => exact ⟨λ h => rl_ok (x.ok ρ σ).2 (y.ok ρ σ).2 λ p q => fL_ok h,λ h => rl_ok (x.ok ρ σ).2 (y.ok ρ σ).2 λ p q a b => fT_ok (Int.lt_of_not_ge h) b a⟩
 | T x y => exact ⟨λ h => rl_ok (x.ok ρ σ).2 (y.ok ρ σ).2 λ p q => fT_ok h,λ h => rl_ok (x.ok ρ σ).2 (y.ok ρ σ).2 λ p q a b => fL_ok (Int.not_lt.mp h) b a⟩
 | E x y => exact ⟨λ h => rl_ok (x.ok ρ σ).2 (y.ok ρ σ).2 λ p q => fE_ok h,λ h => rl_ok (x.ok ρ σ).2 (y.ok ρ σ).2 λ p q => fN_ok h⟩
 | i p q hp hq => exact ⟨λ h => (Classical.em (p.v ρ σ)).elim (λ x => (hq.1 (h x)).r) λ x => (hp.2 x).l,λ h => bo_ok (hp.1 (Classical.byContradiction λ x => h λ y => absurd y x)) (hq.2 λ x => h λ _ => x)⟩
 | a p q hp hq => exact ⟨λ h => bo_ok (hp.1 h.1) (hq.1 h.2),λ h => (Classical.em (p.v ρ σ)).elim (λ x => (hq.2 λ y => h ⟨x,y⟩).r) λ x => (hp.2 x).l⟩
 | o p q hp hq => exact ⟨λ h => h.elim (λ x => (hp.1 x).l) λ x => (hq.1 x).r,λ h => bo_ok (hp.2 λ x => h (.inl x)) (hq.2 λ x => h (.inr x))⟩
 | f => exact ⟨False.elim,λ _ => ⟨_,.head _,λ _ h => absurd h List.not_mem_nil⟩⟩
noncomputable def nn (N : Nat) : List Py := Nat.rec (motive := λ _ => List Py) [] (λ i r => mon (2 * i) :: r) N
theorem nn_ok {ρ : List Nat} {σ : List Int} : ∀ N,allOk (env ρ σ) 0 (nn N)
 | 0 => λ _ h => absurd h List.not_mem_nil
 | N + 1 => λ p hp => by
   rcases List.mem_cons.mp hp with rfl | hp
   · rw [pe_mon,env_n]; exact Int.natCast_nonneg _
   · exact nn_ok N p hp
noncomputable def AF.chk (F : AF) (N : Nat) : Bool := F.c.2.all λ c => fm (2 * N) (c ++ nn N)
end A
noncomputable abbrev N0 : A.AT := .n 0
noncomputable abbrev Z0 : A.AT := .z 0
noncomputable abbrev K0 : A.AT := .k 0
noncomputable abbrev N1 : A.AT := .n 1
noncomputable abbrev Z1 : A.AT := .z 1
noncomputable abbrev K1 : A.AT := .k 1
noncomputable abbrev N2 : A.AT := .n 2
noncomputable abbrev Z2 : A.AT := .z 2
noncomputable abbrev K2 : A.AT := .k 2
noncomputable abbrev N3 : A.AT := .n 3
noncomputable abbrev Z3 : A.AT := .z 3
noncomputable abbrev K3 : A.AT := .k 3
noncomputable abbrev N4 : A.AT := .n 4
noncomputable abbrev Z4 : A.AT := .z 4
noncomputable abbrev K4 : A.AT := .k 4
noncomputable abbrev N5 : A.AT := .n 5
noncomputable abbrev Z5 : A.AT := .z 5
noncomputable abbrev K5 : A.AT := .k 5
noncomputable abbrev N6 : A.AT := .n 6
noncomputable abbrev Z6 : A.AT := .z 6
noncomputable abbrev K6 : A.AT := .k 6
noncomputable abbrev N7 : A.AT := .n 7
noncomputable abbrev Z7 : A.AT := .z 7
noncomputable abbrev K7 : A.AT := .k 7
noncomputable abbrev N8 : A.AT := .n 8
noncomputable abbrev Z8 : A.AT := .z 8
noncomputable abbrev K8 : A.AT := .k 8
noncomputable abbrev N9 : A.AT := .n 9
noncomputable abbrev Z9 : A.AT := .z 9
noncomputable abbrev K9 : A.AT := .k 9
noncomputable abbrev KM : A.AT := .k 1000000
noncomputable abbrev KK : A.AT := .k 1000
theorem ar (F : A.AF) (N : Nat) (ρ : List Nat) (σ : List Int) (h : F.chk N = true := by kernel_rfl) : F.v ρ σ :=
 Classical.byContradiction λ x => by
   obtain ⟨c,hc,ok⟩ := (F.ok ρ σ).2 x
   exact A.fm_ok (List.all_eq_true.mp h c hc) (A.allOk_app ok (A.nn_ok N))

end P_Ar

section P_Mini
open PySem PySem.W PySem.Calls PyProof.Rows

theorem nn {α : Type _} {x : α} {p : Prop} (h : none = some x) : p := nomatch h
theorem sn {α : Type _} {x : α} {p : Prop} (h : some x = none) : p := nomatch h
theorem ft {p : Prop} (h : false = true) : p := Bool.noConfusion h
theorem tf {p : Prop} (h : true = false) : p := Bool.noConfusion h
theorem len_two {α : Type} {l : List α} (h : l.length = 2) : ∃ a b,l = [a,b] := by
 rcases l with _ | ⟨a,_ | ⟨b,_ | ⟨c,l⟩⟩⟩ <;> first | exact nn h | exact ft h | (cases h; done) | exact ⟨_,_,rfl⟩
theorem len_three {α : Type} {l : List α} (h : l.length = 3) : ∃ a b c,l = [a,b,c] := by
 rcases l with _ | ⟨a,l⟩
 · cases h
 · obtain ⟨b,c,rfl⟩ := len_two (Nat.succ.inj h)
   exact ⟨_,_,_,rfl⟩
set_option genCtorIdx true in
inductive Sy where
 | insert | marker | delete | point | property | unmodified | boundary | a
 deriving DecidableEq
noncomputable def Sy.str : Sy → Str
 | .insert => Str.ofString "insert" | .marker => Str.ofString "marker" | .delete => Str.ofString "delete" | .point => Str.ofString "point"
 | .property => Str.ofString "property" | .unmodified => Str.ofString "unmodified" | .boundary => Str.ofString "boundary" | .a => Str.ofString "a"
set_option genCtorIdx true in
inductive At where
 | number | name | text | markers | point | begv | zv | mark | is_live | is_read_only | ticks | codes_ticks | saved_ticks | listeners | undo | props | overlays | locals | syn | file
 | room | cells | gap_start | gap_end | rows | advances | buffer | position | dropped | is_on | point_before | noted_tick | list | codes | runs
 | touch | text_goes | text_comes | size | move_gap | widen_gap | insert | delete | goto | set_modified | is_modified | boundary | begin_command | note_state | note_insert | note_delete
 | is_at_boundary | renew_unmodified | numbers | put | within | inserted | deleted | replaced
noncomputable def At.all : List (At × String) := [(.number, "number"),(.name, "name"),(.text, "text"),(.markers, "markers"),(.point, "point"),(.begv, "begv"),(.zv, "zv"),(.mark, "mark"),(.is_live, "is_live"),(.is_read_only, "is_read_only"),
 (.ticks, "ticks"),(.codes_ticks, "codes_ticks"),(.saved_ticks, "saved_ticks"),(.listeners, "listeners"),(.undo, "undo"),(.props, "props"),(.overlays, "overlays"),(.locals, "locals"),(.syn, "syntax"),(.file, "file"),
 (.room, "room"),(.cells, "cells"),(.gap_start, "gap_start"),(.gap_end, "gap_end"),(.rows, "rows"),(.advances, "advances"),(.buffer, "buffer"),(.position, "position"),(.dropped, "dropped"),(.is_on, "is_on"),
 (.point_before, "point_before"),(.noted_tick, "noted_tick"),(.list, "list"),(.codes, "codes"),(.runs, "runs"),
 (.touch, "touch"),(.text_goes, "text_goes"),(.text_comes, "text_comes"),(.size, "size"),(.move_gap, "move_gap"),(.widen_gap, "widen_gap"),(.insert, "insert"),(.delete, "delete"),(.goto, "goto"),
 (.set_modified, "set_modified"),(.is_modified, "is_modified"),(.boundary, "boundary"),(.begin_command, "begin_command"),(.note_state, "note_state"),(.note_insert, "note_insert"),(.note_delete, "note_delete"),
 (.is_at_boundary, "is_at_boundary"),(.renew_unmodified, "renew_unmodified"),(.numbers, "numbers"),(.put, "put"),(.within, "within"),(.inserted, "inserted"),(.deleted, "deleted"),(.replaced, "replaced")]
theorem At.back (a : At) : (At.all.map (·.1))[a.ctorIdx]? = some a := by cases a <;> rfl
instance : DecidableEq At := λ a b => decidable_of_iff (a.ctorIdx = b.ctorIdx) ⟨λ h => Option.some.inj ((At.back a).symm.trans ((congrArg ((At.all.map (·.1))[·]?) h).trans (At.back b))),λ h => congrArg _ h⟩
noncomputable def nm : At → Str
 | .number => Str.ofString "number" | .name => Str.ofString "name" | .text => Str.ofString "text" | .markers => Str.ofString "markers" | .point => Str.ofString "point" | .begv => Str.ofString "begv" | .zv => Str.ofString "zv"
 | .mark => Str.ofString "mark" | .is_live => Str.ofString "is_live" | .is_read_only => Str.ofString "is_read_only" | .ticks => Str.ofString "ticks" | .codes_ticks => Str.ofString "codes_ticks" | .saved_ticks => Str.ofString "saved_ticks"
 | .listeners => Str.ofString "listeners" | .undo => Str.ofString "undo" | .props => Str.ofString "props" | .overlays => Str.ofString "overlays" | .locals => Str.ofString "locals" | .syn => Str.ofString "syntax" | .file => Str.ofString "file"
 | .room => Str.ofString "room" | .cells => Str.ofString "cells" | .gap_start => Str.ofString "gap_start" | .gap_end => Str.ofString "gap_end" | .rows => Str.ofString "rows" | .advances => Str.ofString "advances" | .buffer => Str.ofString "buffer"
 | .position => Str.ofString "position" | .dropped => Str.ofString "dropped" | .is_on => Str.ofString "is_on" | .point_before => Str.ofString "point_before" | .noted_tick => Str.ofString "noted_tick" | .list => Str.ofString "list"
 | .codes => Str.ofString "codes" | .runs => Str.ofString "runs" | .touch => Str.ofString "touch" | .text_goes => Str.ofString "text_goes" | .text_comes => Str.ofString "text_comes" | .size => Str.ofString "size"
 | .move_gap => Str.ofString "move_gap" | .widen_gap => Str.ofString "widen_gap" | .insert => Str.ofString "insert" | .delete => Str.ofString "delete" | .goto => Str.ofString "goto" | .set_modified => Str.ofString "set_modified"
 | .is_modified => Str.ofString "is_modified" | .boundary => Str.ofString "boundary" | .begin_command => Str.ofString "begin_command" | .note_state => Str.ofString "note_state" | .note_insert => Str.ofString "note_insert"
 | .note_delete => Str.ofString "note_delete" | .is_at_boundary => Str.ofString "is_at_boundary" | .renew_unmodified => Str.ofString "renew_unmodified" | .numbers => Str.ofString "numbers" | .put => Str.ofString "put"
 | .within => Str.ofString "within" | .inserted => Str.ofString "inserted" | .deleted => Str.ofString "deleted" | .replaced => Str.ofString "replaced"
set_option genCtorIdx true in
inductive Cl where
 | buffer | gap | marker | markers | undolist | recording | piece
 deriving DecidableEq
set_option genCtorIdx true in
inductive Fn where
 | need_writable | reached | tell_ahead | tell_behind | text_out | text_in | hung_out | hung_in | put_in | insert | delete | replace
 | insert_piece | marker_distance | need_visible | markers_ahead | undo_insert | undo_delete | undo_row | above_boundaries | undo_group | set_marker
 | deck | draw | law_buffer | law_state | law_command | law
 | gap_init | gap_size | gap_codes | gap_move | gap_widen | gap_insert | gap_delete
 | marker_init | mk_init | mk_numbers | mk_put | mk_within | mk_inserted | mk_deleted | mk_replaced
 | buf_init | buf_size | buf_codes | buf_goto | buf_is_modified | buf_set_modified | buf_touch
 | piece_init | rec_init | rec_comes | rec_goes
 | ul_init | ul_at | ul_boundary | ul_begin | ul_state | ul_insert | ul_delete | ul_renew
noncomputable def Fn.all : List Fn := [.need_writable,.reached,.tell_ahead,.tell_behind,.text_out,.text_in,.hung_out,.hung_in,.put_in,.insert,.delete,.replace,.insert_piece,.marker_distance,.need_visible,.markers_ahead,.undo_insert,.undo_delete,.undo_row,.above_boundaries,.undo_group,.set_marker,.deck,.draw,.law_buffer,.law_state,.law_command,.law,.gap_init,.gap_size,.gap_codes,.gap_move,.gap_widen,.gap_insert,.gap_delete,.marker_init,.mk_init,.mk_numbers,.mk_put,.mk_within,.mk_inserted,.mk_deleted,.mk_replaced,.buf_init,.buf_size,.buf_codes,.buf_goto,.buf_is_modified,.buf_set_modified,.buf_touch,.piece_init,.rec_init,.rec_comes,.rec_goes,.ul_init,.ul_at,.ul_boundary,.ul_begin,.ul_state,.ul_insert,.ul_delete,.ul_renew]
theorem Fn.back (f : Fn) : Fn.all[f.ctorIdx]? = some f := by cases f <;> rfl
instance : DecidableEq Fn := λ a b => decidable_of_iff (a.ctorIdx = b.ctorIdx) ⟨λ h => Option.some.inj ((Fn.back a).symm.trans ((congrArg (Fn.all[·]?) h).trans (Fn.back b))),λ h => congrArg _ h⟩
set_option genCtorIdx true in
inductive Blt where
 | len | list | range | sorted | abs | min | max
 deriving DecidableEq
noncomputable def Blt.id : Blt → String
 | .len => "len" | .list => "list" | .range => "range" | .sorted => "sorted" | .abs => "abs" | .min => "min" | .max => "max"
set_option genCtorIdx true in
inductive Bop where
 | add | sub | mul | fdiv | mod | pow
 deriving DecidableEq
set_option genCtorIdx true in
inductive Cop where
 | eq | ne | lt | le | gt | ge | is_ | isNot | in_
 deriving DecidableEq
set_option genInjectivity false in
inductive ME where
 | none | bool (b : Bool) | int (i : Int) | str (s : Sy) | var (x : Nat) | bnd
 | attr (e : ME) (a : At) | call (f : Fn) (args : List ME) | meth (o : ME) (a : At) (args : List ME) | new (C : Cl) (args : List ME)
 | len (e : ME) | list (e : ME) | listRange (e : ME) | sorted (e : ME) | abs (e : ME) | min (a b : ME) | max (a b : ME)
 | append (o e : ME) | pop0 (o : ME)
 | bin (op : Bop) (a b : ME) | neg (e : ME) | cmp (op : Cop) (a b : ME) | chain (a : ME) (o₁ : Cop) (b : ME) (o₂ : Cop) (c : ME)
 | not (e : ME) | and (es : List ME) | or (es : List ME) | ife (t a b : ME)
 | idx (e i : ME) | slice (e : ME) (lo hi : Option ME) | rev (e : ME)
 | lst (es : List ME) | tup (es : List ME) | dict0
 | comp (x : List Nat) (one : Bool) (src : ME) (cond : Option ME) (elt : ME) | compRange (x : Nat) (n : ME) (elt : ME)
 | stop
set_option genInjectivity false in
inductive MS where
 | assign (x : Nat) (e : ME) | assignN (xs : List Nat) (es : List ME) | unpack (xs : List Nat) (e : ME)
 | setAttr (o : ME) (a : At) (e : ME) | setIdx (o i e : ME) | setSlice (o lo hi e : ME)
 | expr (e : ME) | ite (t : ME) (a b : List MS) | while (t : ME) (b : List MS)
 | forRange (x : Nat) (n : ME) (b : List MS) | forList (xs : List Nat) (one : Bool) (e : ME) (b : List MS)
 | ret (e : Option ME) | pass | stop
set_option genInjectivity true in
set_option genCtorIdx true in
inductive Gl where
 | fn (f : Fn) | cls (C : Cl) | blt (b : Blt) | bnd | other
 deriving DecidableEq
noncomputable def glTab : List (Str × Gl) := [
 (Str.ofString "need_writable",.fn .need_writable),(Str.ofString "reached",.fn .reached),(Str.ofString "tell_ahead",.fn .tell_ahead),(Str.ofString "tell_behind",.fn .tell_behind),(Str.ofString "text_out",.fn .text_out),
 (Str.ofString "text_in",.fn .text_in),(Str.ofString "hung_out",.fn .hung_out),(Str.ofString "hung_in",.fn .hung_in),(Str.ofString "put_in",.fn .put_in),(Str.ofString "insert",.fn .insert),(Str.ofString "delete",.fn .delete),
 (Str.ofString "replace",.fn .replace),(Str.ofString "insert_piece",.fn .insert_piece),(Str.ofString "marker_distance",.fn .marker_distance),(Str.ofString "need_visible",.fn .need_visible),(Str.ofString "markers_ahead",.fn .markers_ahead),
 (Str.ofString "undo_insert",.fn .undo_insert),(Str.ofString "undo_delete",.fn .undo_delete),(Str.ofString "undo_row",.fn .undo_row),(Str.ofString "above_boundaries",.fn .above_boundaries),(Str.ofString "undo_group",.fn .undo_group),
 (Str.ofString "set_marker",.fn .set_marker),(Str.ofString "_law_deck",.fn .deck),(Str.ofString "_law_draw",.fn .draw),(Str.ofString "_law_buffer",.fn .law_buffer),(Str.ofString "_law_state",.fn .law_state),
 (Str.ofString "_law_command",.fn .law_command),
 (Str.ofString "Buffer",.cls .buffer),(Str.ofString "GapText",.cls .gap),(Str.ofString "Marker",.cls .marker),(Str.ofString "Markers",.cls .markers),(Str.ofString "UndoList",.cls .undolist),(Str.ofString "Recording",.cls .recording),
 (Str.ofString "Piece",.cls .piece),
 (Str.ofString "len",.blt .len),(Str.ofString "list",.blt .list),(Str.ofString "range",.blt .range),(Str.ofString "sorted",.blt .sorted),(Str.ofString "abs",.blt .abs),(Str.ofString "min",.blt .min),(Str.ofString "max",.blt .max),
 (Str.ofString "BOUNDARY",.bnd)]
noncomputable def gl (x : Str) : Gl := match glTab.find? (λ p => p.1 == x) with | some p => p.2 | none => .other
noncomputable def atTab : List (Str × At) := At.all.map λ p => (nm p.1,p.1)
noncomputable def atOf (x : Str) : Option At := (atTab.find? (λ p => p.1 == x)).map (·.2)
noncomputable def syTab : List (Str × Sy) := [Sy.insert,.marker,.delete,.point,.property,.unmodified,.boundary,.a].map λ s => (s.str,s)
noncomputable def syOf (x : Str) : Option Sy := (syTab.find? (λ p => p.1 == x)).map (·.2)
structure Sco where
 kind : Str → Option NameKind
 code : Str → Option Nat
noncomputable def idxOf (names : List (Str × NameKind)) (x : Str) : Nat := names.findIdx λ p => p.1 == x
noncomputable def isVar : Option NameKind → Bool
 | some .local | some .cell => true
 | _ => false
noncomputable def scoOf (names : List (Str × NameKind)) : Sco := ⟨λ x => names.lookup x,λ x => if isVar (names.lookup x) then some (idxOf names x) else none⟩
noncomputable def scoIn (o : Sco) (names : List (Str × NameKind)) : Sco :=
 ⟨λ x => if names.lookup x = some .free ∧ o.kind x = some .cell then some .cell else names.lookup x,
  λ x => if names.lookup x = some .local ∧ x ≠ Str.ofString ".0" then some (100 + idxOf names x) else if names.lookup x = some .free ∧ o.kind x = some .cell then o.code x else none⟩
noncomputable def cBop : Operator → Option Bop
 | .Add => some .add | .Sub => some .sub | .Mult => some .mul | .FloorDiv => some .fdiv | .Mod => some .mod | .Pow => some .pow
 | _ => none
noncomputable def cCop : CmpOp → Option Cop
 | .Eq => some .eq | .NotEq => some .ne | .Lt => some .lt | .LtE => some .le | .Gt => some .gt | .GtE => some .ge | .Is => some .is_ | .IsNot => some .isNot | .In => some .in_
 | _ => none
noncomputable def noSuper : PySem.Expr → Bool
 | .Call f _ _ _ => !Nat.beq f.ctorIdx 23
 | _ => true
noncomputable def nameCode? (sc : Sco) : PySem.Expr → Option Nat
 | .Name id _ => if sc.kind id = some .local then sc.code id else none
 | _ => none
noncomputable def namesCodes? (sc : Sco) : List PySem.Expr → Option (List Nat)
 | [] => some []
 | e :: r => match nameCode? sc e,namesCodes? sc r with | some c,some cs => some (c :: cs) | _,_ => none
noncomputable def target? (sc : Sco) : PySem.Expr → Option (List Nat × Bool)
 | .Name id _ => if sc.kind id = some .local then (sc.code id).map λ c => ([c],true) else none
 | .Tuple es _ _ => (namesCodes? sc es).map λ cs => (cs,false)
 | _ => none
noncomputable def isOne : Const → Bool
 | .int i => i == 1
 | _ => false
noncomputable def isOneC : PySem.Expr → Bool
 | .Constant c _ _ => isOne c
 | _ => false
noncomputable def isSub : UnaryOp → Bool
 | .USub => true
 | _ => false
noncomputable def oneLess : PySem.Expr → Bool
 | .UnaryOp o e _ => isSub o && isOneC e
 | _ => false
noncomputable def gBlt (sc : Sco) (f : PySem.Expr) (b : Blt) : Bool := match f with
 | .Name id _ => sc.kind id = some .globalImplicit && gl id = .blt b
 | _ => false
noncomputable def plainArgs (as : List PySem.Expr) : Bool := (as.all λ e => !Nat.beq e.ctorIdx 22) && decide (as.length ≤ 20)
noncomputable def targetNames : PySem.Expr → List Str
 | .Name id _ => [id]
 | .Tuple es _ _ => es.filterMap λ | .Name id _ => some id | _ => none
 | _ => []
noncomputable def isSet (e : PySem.Expr) : Bool := Nat.beq e.ctorIdx 7
noncomputable def compOk (sc : Sco) (t it : PySem.Expr) (scope : Scope) : Bool :=
 scope.kind == .function && !isSet it && (scope.names.lookup (Str.ofString "__debug__")).isNone && scope.names.all λ p => match p.2 with
   | .local => (p.1 == Str.ofString ".0" || (targetNames t).contains p.1) && decide (scope.names.lookup p.1 = some .local)
   | .free => decide (sc.kind p.1 = some .cell) && (match sc.code p.1 with | some i => decide (i < 100) | none => false)
   | .cell => false
   | _ => true
noncomputable def rangeArg? (sc : Sco) : PySem.Expr → Option PySem.Expr
 | .Call f [e] [] _ => if gBlt sc f .range && plainArgs [e] then some e else none
 | _ => none
noncomputable def m1 {α : Type} (f : α → ME) (as : List α) : ME := List.rec (motive := λ _ => ME) .stop (λ a r _ => List.rec (motive := λ _ => ME) (f a) (λ _ _ _ => .stop) r) as
noncomputable def m2 (f : ME → ME → ME) (as : List ME) : ME := List.rec (motive := λ _ => ME) .stop (λ a r _ => m1 (f a) r) as
noncomputable def bltOf (b : Blt) (as : List ME) : ME := Blt.rec (motive := λ _ => ME) (m1 .len as) (m1 .list as) .stop (m1 .sorted as) (m1 .abs as) (m2 .min as) (m2 .max as) b
noncomputable def callOf (g : Gl) (l : ME) (as : List ME) : ME := Gl.rec (motive := λ _ => ME) (λ f => .call f as) (λ C => .new C as) (λ b => if b = .list then l else bltOf b as) .stop .stop g
noncomputable def int0 : ME → Bool
 | .int i => i == 0
 | _ => false
noncomputable def methOf (x : Str) (o : ME) (as : List ME) : ME :=
 if x = Str.ofString "append" then m1 (.append o) as
 else if x = Str.ofString "pop" then (if (as.length == 1 && as.all int0) = true then .pop0 o else .stop)
 else match atOf x with | some a => .meth o a as | none => .stop
noncomputable def compS (t : Option (List Nat × Bool)) (r : Option PySem.Expr) (ifs : List PySem.Expr) (f g : PySem.Expr → ME) (it elt : PySem.Expr) : ME := match t with
 | none => .stop
 | some p => match r with
   | some e => if p.2 && p.1.length == 1 && ifs.isEmpty then .compRange (p.1.headD 0) (f e) (g elt) else .stop
   | none => match ifs with
     | [] => .comp p.1 p.2 (f it) Option.none (g elt)
     | c :: r => if r.isEmpty then .comp p.1 p.2 (f it) (some (g c)) (g elt) else .stop
noncomputable def cE : Nat → Sco → PySem.Expr → ME
 | 0,_,_ => .stop
 | n + 1,sc,e => match e with
   | .Constant c _ _ => (match c with
     | .none => .none
     | .bool b => .bool b
     | .int i => .int i
     | .str s => (match syOf s with | some y => .str y | none => .stop)
     | _ => .stop)
   | .Name id _ => (match sc.code id with
     | some i => .var i
     | none => if sc.kind id = some .globalImplicit ∧ gl id = .bnd then .bnd else .stop)
   | .BoolOp .And vs _ => .and (vs.map (cE n sc))
   | .BoolOp .Or vs _ => .or (vs.map (cE n sc))
   | .BinOp l op r _ => (match cBop op with | some o => .bin o (cE n sc l) (cE n sc r) | none => .stop)
   | .UnaryOp .Not x _ => .not (cE n sc x)
   | .UnaryOp .USub x _ => .neg (cE n sc x)
   | .IfExp t a b _ => .ife (cE n sc t) (cE n sc a) (cE n sc b)
   | .ListComp elt [⟨t,it,ifs,0⟩] scope _ =>
     let si := scoIn sc scope.names
     if !compOk sc t it scope then .stop else compS (target? si t) (rangeArg? sc it) ifs (cE n sc) (cE n si) it elt
   | .Compare l [op] [r] _ => (match cCop op with | some o => if behindInMarks op r then .stop else .cmp o (cE n sc l) (cE n sc r) | none => .stop)
   | .Compare a [o₁,o₂] [b,c] _ => (match cCop o₁,cCop o₂ with
     | some p,some q => if behindInMarks o₂ c then .stop else .chain (cE n sc a) p (cE n sc b) q (cE n sc c)
     | _,_ => .stop)
   | .Call f as [] pos => if !plainArgs as then .stop else (match f with
     | .Name id _ => if sc.kind id = some .globalImplicit then
         callOf (gl id) (m1 (λ a => match rangeArg? sc a with | some e => .listRange (cE n sc e) | none => .list (cE n sc a)) as) (as.map (cE n sc))
         else .stop
     | .Attribute o x apos => if noSuper o && apos.endLine == pos.line then methOf x (cE n sc o) (as.map (cE n sc)) else .stop
     | _ => .stop)
   | .Attribute v x _ => if noSuper v then (match atOf x with | some a => .attr (cE n sc v) a | none => .stop) else .stop
   | .Subscript v s _ => (match s with
     | .Slice lo hi none _ => .slice (cE n sc v) (lo.map (cE n sc)) (hi.map (cE n sc))
     | .Slice none none (some st) _ => if oneLess st then .rev (cE n sc v) else .stop
     | s => .idx (cE n sc v) (cE n sc s))
   | .List es _ => if plainArgs es then .lst (es.map (cE n sc)) else .stop
   | .Tuple es _ _ => if plainArgs es then .tup (es.map (cE n sc)) else .stop
   | .Dict [] [] _ => .dict0
   | _ => .stop
noncomputable def swapOk (ts vs : List PySem.Expr) : Bool := (ts.length == 2 || ts.length == 3) && vs.length == ts.length && !(vs.any λ | .Starred .. => true | _ => false) && !vs.all (foldedForSure 8) && !vs.all (constantsAlone 8)
noncomputable def sameLine (ts : List PySem.Expr) : Bool := ts.all λ t => t.pos.line == (ts.head?.map (·.pos.line)).getD 0
noncomputable def isComp (e : PySem.Expr) : Bool := Nat.beq e.ctorIdx 8 || Nat.beq e.ctorIdx 9 || Nat.beq e.ctorIdx 10
noncomputable def tupV (sc : Sco) (ts : List PySem.Expr) (xs : List Nat) (v : PySem.Expr) : MS := match v with
 | .Tuple vs _ _ => if swapOk ts vs && sameLine ts && decide xs.Nodup then .assignN xs (vs.map (cE 40 sc)) else .stop
 | .Call .. => .unpack xs (cE 40 sc v)
 | _ => .stop
noncomputable def forS (t : Option (List Nat × Bool)) (r : Option PySem.Expr) (f : PySem.Expr → ME) (it : PySem.Expr) (b : List MS) : MS := match t with
 | none => .stop
 | some p => match r with
   | none => .forList p.1 p.2 (f it) b
   | some e => if p.2 && p.1.length == 1 then .forRange (p.1.headD 0) (f e) b else .stop
noncomputable def cS : Nat → Sco → PySem.Stmt → MS
 | 0,_,_ => .stop
 | n + 1,sc,s => match s with
   | .Expr v _ => if isComp v then .stop else .expr (cE 40 sc v)
   | .Pass _ => .pass
   | .Return v _ => .ret (v.map (cE 40 sc))
   | .Assign [t] v pos => (match t with
     | .Name id _ => (match sc.code id with | some i => .assign i (cE 40 sc v) | none => .stop)
     | .Attribute o x _ => if isComp v && false then .stop else (match atOf x with | some a => .setAttr (cE 40 sc o) a (cE 40 sc v) | none => .stop)
     | .Subscript o i _ => if isComp v then .stop else (match i with
       | .Slice (some lo) (some hi) none _ => .setSlice (cE 40 sc o) (cE 40 sc lo) (cE 40 sc hi) (cE 40 sc v)
       | .Slice .. => .stop
       | i => .setIdx (cE 40 sc o) (cE 40 sc i) (cE 40 sc v))
     | .Tuple ts _ _ => (match namesCodes? sc ts with
       | some xs => tupV sc ts xs v
       | none => .stop)
     | _ => .stop)
   | .If t a b _ => .ite (cE 40 sc t) (a.map (cS n sc)) (b.map (cS n sc))
   | .While t b [] _ => .while (cE 40 sc t) (b.map (cS n sc))
   | .For t it b [] _ => if isSet it then .stop else forS (target? sc t) (rangeArg? sc it) (cE 40 sc) it (b.map (cS n sc))
   | _ => .stop

end P_Mini

section P_MSem
open PySem PySem.W PySem.Calls PyProof.Rows

set_option genInjectivity true in
inductive AV where
 | none | bool (b : Bool) | int (i : Int) | str (s : Sy) | ref (a : Addr) | tup (xs : List AV)
set_option genInjectivity true in
inductive AO where
 | list (xs : List AV) | flist (xs : List AV) | inst (C : Cl) (k : Nat) (d : Addr) (F : At → Option AV) | idict (es : List (Int × AV))
noncomputable def AV.ctorIdx (x : AV) : Nat := @AV.casesOn (λ _ => Nat) x 0 (λ _ => 1) (λ _ => 2) (λ _ => 3) (λ _ => 4) (λ _ => 5)
noncomputable def AO.ctorIdx (x : AO) : Nat := @AO.casesOn (λ _ => Nat) x (λ _ => 0) (λ _ => 1) (λ _ _ _ _ => 2) (λ _ => 3)
noncomputable abbrev AHeap := Addr → Option AO
noncomputable abbrev Locals := Nat → Option AV
noncomputable def AHeap.set (H : AHeap) (a : Addr) (o : AO) : AHeap := λ b => if b = a then some o else H b
noncomputable def upd (ρ : Locals) (x : Nat) (v : AV) : Locals := λ y => if y = x then some v else ρ y
noncomputable def upds (ρ : Locals) : List Nat → List AV → Locals
 | x :: xs,v :: vs => upds (upd ρ x v) xs vs
 | _,_ => ρ
noncomputable def setF (F : At → Option AV) (a : At) (v : AV) : At → Option AV := λ b => if b = a then some v else F b
noncomputable def fieldsOf (C : Cl) : List At := Cl.rec (motive := λ _ => List At) [.number,.name,.text,.markers,.point,.begv,.zv,.mark,.is_live,.is_read_only,.ticks,.codes_ticks,.saved_ticks,.listeners,.undo,.props,.overlays,.locals,.syn,.file] [.room,.cells,.gap_start,.gap_end] [.number,.advances,.buffer,.position] [.rows] [.rows,.dropped,.is_on,.point_before,.noted_tick] [.list] [.codes,.runs] C
noncomputable def isField (C : Cl) (a : At) : Bool := (fieldsOf C).any λ b => Nat.beq b.ctorIdx a.ctorIdx
noncomputable def methsOf (C : Cl) : List (At × Fn) := Cl.rec (motive := λ _ => List (At × Fn)) [(.size,.buf_size),(.codes,.buf_codes),(.goto,.buf_goto),(.is_modified,.buf_is_modified),(.set_modified,.buf_set_modified),(.touch,.buf_touch)] [(.size,.gap_size),(.codes,.gap_codes),(.move_gap,.gap_move),(.widen_gap,.gap_widen),(.insert,.gap_insert),(.delete,.gap_delete)] [] [(.numbers,.mk_numbers),(.put,.mk_put),(.within,.mk_within),(.inserted,.mk_inserted),(.deleted,.mk_deleted),(.replaced,.mk_replaced)] [(.is_at_boundary,.ul_at),(.boundary,.ul_boundary),(.begin_command,.ul_begin),(.note_state,.ul_state),(.note_insert,.ul_insert),(.note_delete,.ul_delete),(.renew_unmodified,.ul_renew)] [(.text_comes,.rec_comes),(.text_goes,.rec_goes)] [] C
noncomputable def methodOf (C : Cl) (a : At) : Option Fn := (methsOf C).findSome? λ p => cond (Nat.beq p.1.ctorIdx a.ctorIdx) (some p.2) none
noncomputable def initOf : Cl → Fn
 | .buffer => .buf_init | .gap => .gap_init | .marker => .marker_init | .markers => .mk_init | .undolist => .ul_init | .recording => .rec_init | .piece => .piece_init
noncomputable def andO : Option Bool → Option Bool → Option Bool
 | some a,some b => some (a && b)
 | _,_ => none
noncomputable def eqvs (f : AV → AV → Option Bool) : List AV → List AV → Option Bool
 | [],[] => some true
 | x :: xs,y :: ys => (match f x y with | some true => eqvs f xs ys | r => r)
 | _,_ => some false
noncomputable def eqvl (f : AV → AV → Option Bool) : List AV → List AV → Option Bool
 | x :: xs,y :: ys => andO (f x y) (eqvl f xs ys)
 | _,_ => some true
noncomputable def eqv (H : AHeap) : Nat → AV → AV → Option Bool
 | 0,_,_ => none
 | n + 1,a,b => match a,b with
   | .none,.none => some true
   | .none,.int _ => some false
   | .int _,.none => some false
   | .bool x,.bool y => some (x == y)
   | .int x,.int y => some (x == y)
   | .str x,.str y => some (decide (x = y))
   | .tup xs,.tup ys => eqvs (eqv H n) xs ys
   | .ref x,.ref y => if x = y then some true else (match H x,H y with
     | some (.list xs),some (.list ys) => if xs.length = ys.length then eqvl (eqv H n) xs ys else some false
     | _,_ => none)
   | _,_ => none
noncomputable def isv : AV → AV → Option Bool
 | .none,.none => some true
 | .none,.ref _ => some false | .ref _,.none => some false | .int _,.none => some false
 | .ref x,.ref y => if x = y then some true else none
 | _,_ => none
noncomputable def lim : Nat := 1000000
noncomputable def keyOf (es : List (Int × AV)) (k : Int) : Option AV := es.lookup k
noncomputable def putKey (es : List (Int × AV)) (k : Int) (v : AV) : List (Int × AV) := if es.any (λ p => p.1 = k) then es.map (λ p => if p.1 = k then (p.1,v) else p) else es ++ [(k,v)]
noncomputable def eqTop (H : AHeap) (a b : AV) : Option Bool := match a,b with
 | .ref x,.ref y => if x = y then none else eqv H 5 (.ref x) (.ref y)
 | a,b => eqv H 5 a b
noncomputable def cmpv (H : AHeap) (op : Cop) (a b : AV) : Option Bool := match op with
 | .eq => eqTop H a b
 | .ne => (eqTop H a b).map (!·)
 | .lt => (match a,b with | .int x,.int y => some (decide (x < y)) | _,_ => none)
 | .le => (match a,b with | .int x,.int y => some (decide (x ≤ y)) | _,_ => none)
 | .gt => (match a,b with | .int x,.int y => some (decide (x > y)) | _,_ => none)
 | .ge => (match a,b with | .int x,.int y => some (decide (x ≥ y)) | _,_ => none)
 | .is_ => isv a b
 | .isNot => (isv a b).map (!·)
 | .in_ => (match a,b with | .int k,.ref d => (match H d with | some (.idict es) => some (keyOf es k).isSome | _ => none) | _,_ => none)
noncomputable def fresh (H : AHeap) (o : AO) (Q : AV → AHeap → Prop) : Prop := ∀ x,H x = none → Q (.ref x) (H.set x o)
noncomputable def binv (H : AHeap) (op : Bop) (a b : AV) (Q : AV → AHeap → Prop) : Prop := match op,a,b with
 | .add,.int x,.int y => Q (.int (x + y)) H
 | .sub,.int x,.int y => Q (.int (x - y)) H
 | .mul,.int x,.int y => x.natAbs < 2 ^ 64 ∧ y.natAbs < 2 ^ 64 ∧ Q (.int (x * y)) H
 | .fdiv,.int x,.int y => 0 < y ∧ y < 1073741824 ∧ Q (.int (x.fdiv y)) H
 | .mod,.int x,.int y => 0 < y ∧ Q (.int (x.fmod y)) H
 | .pow,.int x,.int y => x = 10 ∧ y = 18 ∧ Q (.int (10 ^ 18)) H
 | .add,.ref x,.ref y => (match H x,H y with | some (.list xs),some (.list ys) => xs.length + ys.length ≤ lim ∧ fresh H (.list (xs ++ ys)) Q | _,_ => False)
 | .mul,.ref x,.int n => (match H x with | some (.list [v]) => 0 ≤ n ∧ n ≤ lim ∧ fresh H (.list (List.replicate n.toNat v)) Q | _ => False)
 | _,_,_ => False
noncomputable def nth (xs : List AV) (i : Int) : Option AV := if 0 ≤ i then (if i < lim then xs[i.toNat]? else none) else if 0 ≤ i + xs.length ∧ -lim ≤ i then xs[(i + xs.length).toNat]? else none
noncomputable def idxv (H : AHeap) (a i : AV) : Option AV := match a,i with
 | .tup xs,.int k => nth xs k
 | .ref x,.int k => (match H x with
   | some (.list xs) => nth xs k
   | some (.idict es) => keyOf es k
   | _ => none)
 | _,_ => none
noncomputable def seqAt (H : AHeap) (x : Addr) : Option (List AV) := match H x with
 | some (.list xs) => some xs
 | some (.flist xs) => some xs
 | _ => none
noncomputable def cutv (xs : List AV) (lo hi : Option Int) : List AV := (match hi with | some h => xs.take h.toNat | none => xs).drop (match lo with | some l => l.toNat | none => 0)
noncomputable def partOk : Option AV → Option (Option Int)
 | none => some none
 | some (.int i) => if 0 ≤ i then some (some i) else none
 | _ => none
noncomputable def intKeys (es : List (Int × AV)) : Bool := match es with
 | [] => true
 | [(a,_)] => true
 | [(a,_),(b,_)] => decide (a < b)
 | _ => false
noncomputable def over (l : Addr) (turn : AV → AHeap → (AHeap → Prop) → Prop) : List AV → AHeap → (AHeap → Prop) → Prop
 | [],H,k => k H
 | v :: vs,H,k => turn v H λ H' => over l turn vs H' k
noncomputable def isListV (H : AHeap) : AV → Bool
 | .ref x => (match H x with | some (.list _) => true | _ => false)
 | _ => false
section
variable (call : Fn → List AV → AHeap → (AV → AHeap → Prop) → Prop)
noncomputable def mComp (bind : Locals → AV → Option Locals) (ρ : Locals) (cond : Locals → AHeap → (Bool → AHeap → Prop) → Prop) (elt : Locals → AHeap → (AV → AHeap → Prop) → Prop) (same : AHeap → Prop) :
   List AV → List AV → AHeap → (List AV → AHeap → Prop) → Prop
 | [],ys,H,k => k ys H
 | v :: vs,ys,H,k => ∃ ρ',bind ρ v = some ρ' ∧ cond ρ' H λ b H₁ => match b with
   | true => elt ρ' H₁ λ y H₂ => same H₂ ∧ ys.length < lim ∧ mComp bind ρ cond elt same vs (ys ++ [y]) H₂ k
   | false => same H₁ ∧ mComp bind ρ cond elt same vs ys H₁ k
noncomputable def bindT (xs : List Nat) (one : Bool) (ρ : Locals) (v : AV) : Option Locals := match one,xs,v with
 | true,[x],v => some (upd ρ x v)
 | false,xs,.tup vs => if xs.length = vs.length then some (upds ρ xs vs) else none
 | _,_,_ => none
mutual
noncomputable def mE : ME → Locals → AHeap → (AV → AHeap → Prop) → Prop
 | .none,_,H,Q => Q .none H
 | .bool b,_,H,Q => Q (.bool b) H
 | .int i,_,H,Q => Q (.int i) H
 | .str s,_,H,Q => Q (.str s) H
 | .var x,ρ,H,Q => (match ρ x with | some v => Q v H | none => False)
 | .bnd,_,H,Q => Q (.tup [.str .boundary]) H
 | .attr e a,ρ,H,Q => mE e ρ H λ v H' => match v with
   | .ref x => (match H' x with | some (.inst C _ _ F) => isField C a = true ∧ (match F a with | some u => Q u H' | none => False) | _ => False)
   | _ => False
 | .call f as,ρ,H,Q => mEs as ρ H λ vs H' => call f vs H' Q
 | .meth o a as,ρ,H,Q => mE o ρ H λ v H' => match v with
   | .ref x => (match H' x with | some (.inst C _ _ F) => F a = none ∧ (match methodOf C a with | some f => mEs as ρ H' λ vs H'' => call f (.ref x :: vs) H'' Q | none => False) | _ => False)
   | _ => False
 | .new C as,ρ,H,Q => mEs as ρ H λ vs H' => ∀ x d,H' x = none → H' d = none → x ≠ d → call (initOf C) (.ref x :: vs) (H'.set x (.inst C 0 d λ _ => none)) λ r H'' => r = .none ∧ Q (.ref x) H''
 | .len e,ρ,H,Q => mE e ρ H λ v H' => match v with
   | .ref x => (match H' x with | some (.list xs) => xs.length ≤ lim ∧ Q (.int xs.length) H' | _ => False)
   | _ => False
 | .list e,ρ,H,Q => mE e ρ H λ v H' => match v with
   | .ref x => (match H' x with | some (.list xs) => xs.length ≤ lim ∧ fresh H' (.list xs) Q | _ => False)
   | _ => False
 | .listRange e,ρ,H,Q => mE e ρ H λ v H' => match v with
   | .int n => 0 ≤ n ∧ n ≤ lim ∧ fresh H' (.list ((List.range n.toNat).map λ (i : Nat) => .int (i : Int))) Q
   | _ => False
 | .sorted e,ρ,H,Q => mE e ρ H λ v H' => match v with
   | .ref x => (match H' x with | some (.idict es) => intKeys es = true ∧ fresh H' (.list (es.map λ p => .int p.1)) Q | _ => False)
   | _ => False
 | .abs e,ρ,H,Q => mE e ρ H λ v H' => match v with
   | .int i => Q (.int (i.natAbs : Int)) H'
   | _ => False
 | .min a b,ρ,H,Q => mE a ρ H λ u H₁ => mE b ρ H₁ λ v H₂ => match u,v with
   | .int x,.int y => Q (.int (min x y)) H₂
   | _,_ => False
 | .max a b,ρ,H,Q => mE a ρ H λ u H₁ => mE b ρ H₁ λ v H₂ => match u,v with
   | .int x,.int y => Q (.int (max x y)) H₂
   | _,_ => False
 | .append o e,ρ,H,Q => mE o ρ H λ v H₁ => isListV H₁ v = true ∧ mE e ρ H₁ λ u H₂ => match v with
   | .ref x => (match H₂ x with | some (.list xs) => xs.length < lim ∧ Q .none (H₂.set x (.list (xs ++ [u]))) | _ => False)
   | _ => False
 | .pop0 o,ρ,H,Q => mE o ρ H λ v H₁ => match v with
   | .ref x => (match H₁ x with | some (.list (u :: xs)) => xs.length < lim ∧ Q u (H₁.set x (.list xs)) | _ => False)
   | _ => False
 | .bin op a b,ρ,H,Q => mE a ρ H λ u H₁ => mE b ρ H₁ λ v H₂ => binv H₂ op u v Q
 | .neg e,ρ,H,Q => mE e ρ H λ v H' => match v with
   | .int i => Q (.int (-i)) H'
   | _ => False
 | .cmp op a b,ρ,H,Q => mE a ρ H λ u H₁ => mE b ρ H₁ λ v H₂ => match cmpv H₂ op u v with
   | some r => Q (.bool r) H₂
   | none => False
 | .and es,ρ,H,Q => mBool true es ρ H Q
 | .or es,ρ,H,Q => mBool false es ρ H Q
 | .ife t a b,ρ,H,Q => mT t (mE t ρ H) ρ H λ r H' => (r = true → mE a ρ H' Q) ∧ (r = false → mE b ρ H' Q)
 | .idx e i,ρ,H,Q => mE e ρ H λ u H₁ => mE i ρ H₁ λ v H₂ => match idxv H₂ u v with
   | some r => Q r H₂
   | none => False
 | .slice e lo hi,ρ,H,Q => mE e ρ H λ u H₁ => mO lo ρ H₁ λ l H₂ => mO hi ρ H₂ λ h H₃ => match u,partOk l,partOk h with
   | .ref x,some l,some h => (match seqAt H₃ x with | some xs => xs.length ≤ 16000000 ∧ fresh H₃ (.list (cutv xs l h)) Q | none => False)
   | _,_,_ => False
 | .rev e,ρ,H,Q => mE e ρ H λ u H₁ => match u with
   | .ref x => (match H₁ x with | some (.list xs) => xs.length ≤ lim ∧ fresh H₁ (.list xs.reverse) Q | _ => False)
   | _ => False
 | .lst es,ρ,H,Q => mEs es ρ H λ vs H' => fresh H' (.list vs) Q
 | .tup es,ρ,H,Q => mEs es ρ H λ vs H' => Q (.tup vs) H'
 | .dict0,_,H,Q => fresh H (.idict []) Q
 | .comp xs one src cond elt,ρ,H,Q => mE src ρ H λ u H₁ => match u with
   | .ref l => (match H₁ l with
     | some (.list vs) => mComp (bindT xs one) ρ (λ ρ' H k => mC cond ρ' H k) (λ ρ' H k => mE elt ρ' H k) (λ H' => H' l = some (.list vs)) vs [] H₁ λ ys H₂ => fresh H₂ (.list ys) Q
     | _ => False)
   | _ => False
 | .compRange x n elt,ρ,H,Q => mE n ρ H λ u H₁ => match u with
   | .int n => 0 ≤ n ∧ n ≤ lim ∧ mComp (bindT [x] true) ρ (λ _ H k => k true H) (λ ρ' H k => mE elt ρ' H k) (λ _ => True) ((List.range n.toNat).map λ (i : Nat) => .int (i : Int)) [] H₁ λ ys H₂ => fresh H₂ (.list ys) Q
   | _ => False
 | .not _,_,_,_ => False
 | .chain ..,_,_,_ => False
 | .stop,_,_,_ => False
noncomputable def mEs : List ME → Locals → AHeap → (List AV → AHeap → Prop) → Prop
 | [],_,H,Q => Q [] H
 | e :: es,ρ,H,Q => mE e ρ H λ v H₁ => mEs es ρ H₁ λ vs H₂ => Q (v :: vs) H₂
noncomputable def mO : Option ME → Locals → AHeap → (Option AV → AHeap → Prop) → Prop
 | none,_,H,Q => Q none H
 | some e,ρ,H,Q => mE e ρ H λ v H' => Q (some v) H'
noncomputable def mC : Option ME → Locals → AHeap → (Bool → AHeap → Prop) → Prop
 | none,_,H,Q => Q true H
 | some e,ρ,H,Q => mT e (mE e ρ H) ρ H Q
noncomputable def mBool (isAnd : Bool) : List ME → Locals → AHeap → (AV → AHeap → Prop) → Prop
 | [],_,_,_ => False
 | e :: es,ρ,H,Q => mE e ρ H λ v H' => match v with
   | .bool b => if es.isEmpty || b != isAnd then Q (.bool b) H' else mBool isAnd es ρ H' Q
   | _ => False
noncomputable def mT : ME → ((AV → AHeap → Prop) → Prop) → Locals → AHeap → (Bool → AHeap → Prop) → Prop
 | .not e,_,ρ,H,Q => mT e (mE e ρ H) ρ H λ b H' => Q (!b) H'
 | .and es,_,ρ,H,Q => mAll true es ρ H Q
 | .or es,_,ρ,H,Q => mAll false es ρ H Q
 | .ife ..,_,_,_,_ => False
 | .chain a p b q c,_,ρ,H,Q => mE a ρ H λ u H₁ => mE b ρ H₁ λ v H₂ => match cmpv H₂ p u v with
   | some true => mE c ρ H₂ λ x H₃ => (match cmpv H₃ q v x with | some r => Q r H₃ | none => False)
   | some false => Q false H₂
   | none => False
 | _,whole,_,_,Q => whole λ v H' => match v with
   | .bool b => Q b H'
   | _ => False
noncomputable def mAll (isAnd : Bool) : List ME → Locals → AHeap → (Bool → AHeap → Prop) → Prop
 | [],_,H,Q => Q isAnd H
 | e :: es,ρ,H,Q => mT e (mE e ρ H) ρ H λ b H' => (b = isAnd → mAll isAnd es ρ H' Q) ∧ (b = !isAnd → Q b H')
end
set_option genInjectivity true in
inductive MF where
 | next | ret (v : AV)
noncomputable def MF.ctorIdx (x : MF) : Nat := @MF.casesOn (λ _ => Nat) x 0 (λ _ => 1)
noncomputable abbrev SPost := MF → Locals → AHeap → Prop
noncomputable def mFor (bind : Locals → AV → Option Locals) (same : AHeap → Prop) (body : Locals → AHeap → SPost → Prop) : List AV → Locals → AHeap → SPost → Prop
 | [],ρ,H,Q => Q .next ρ H
 | v :: vs,ρ,H,Q => ∃ ρ',bind ρ v = some ρ' ∧ body ρ' H λ f ρ₁ H₁ => match f with
   | .next => same H₁ ∧ mFor bind same body vs ρ₁ H₁ Q
   | .ret r => Q (.ret r) ρ₁ H₁
mutual
noncomputable def mS : MS → Locals → AHeap → SPost → Prop
 | .assign x e,ρ,H,Q => mE call e ρ H λ v H' => Q .next (upd ρ x v) H'
 | .assignN xs es,ρ,H,Q => mEs call es ρ H λ vs H' => xs.length = vs.length ∧ Q .next (upds ρ xs vs) H'
 | .unpack xs e,ρ,H,Q => mE call e ρ H λ v H' => match v with
   | .tup vs => xs.length = vs.length ∧ Q .next (upds ρ xs vs) H'
   | _ => False
 | .setAttr o a e,ρ,H,Q => mE call e ρ H λ u H₁ => mE call o ρ H₁ λ v H₂ => match v with
   | .ref x => (match H₂ x with | some (.inst C k d F) => isField C a = true ∧ k ≤ 900 ∧ Q .next ρ (H₂.set x (.inst C (if (F a).isSome then k else k + 1) d (setF F a u))) | _ => False)
   | _ => False
 | .setIdx o i e,ρ,H,Q => mE call e ρ H λ u H₁ => mE call o ρ H₁ λ v H₂ => mE call i ρ H₂ λ j H₃ => match v,j with
   | .ref x,.int j => (match H₃ x with
     | some (.list xs) => xs.length ≤ lim ∧ (if 0 ≤ j then j < xs.length ∧ Q .next ρ (H₃.set x (.list (xs.set j.toNat u))) else 0 ≤ j + xs.length ∧ Q .next ρ (H₃.set x (.list (xs.set (j + xs.length).toNat u))))
     | some (.idict es) => es.length ≤ 900 ∧ Q .next ρ (H₃.set x (.idict (putKey es j u)))
     | _ => False)
   | _,_ => False
 | .setSlice o lo hi e,ρ,H,Q => mE call e ρ H λ u H₁ => mE call o ρ H₁ λ v H₂ => mE call lo ρ H₂ λ i H₃ => mE call hi ρ H₃ λ j H₄ => match u,v,i,j with
   | .ref y,.ref x,.int i,.int j => (match H₄ y,H₄ x with
     | some (.list ys),some (.list xs) => x ≠ y ∧ 0 ≤ i ∧ i ≤ j ∧ j ≤ xs.length ∧ xs.length + ys.length ≤ lim ∧ Q .next ρ (H₄.set x (.list (xs.take i.toNat ++ ys ++ xs.drop j.toNat)))
     | _,_ => False)
   | _,_,_,_ => False
 | .expr e,ρ,H,Q => mE call e ρ H λ _ H' => Q .next ρ H'
 | .ite t a b,ρ,H,Q => mT call t (mE call t ρ H) ρ H λ r H' => (r = true → mSs a ρ H' Q) ∧ (r = false → mSs b ρ H' Q)
 | .while t b,ρ,H,Q => ∃ (I : Nat → Locals → AHeap → Prop) (n : Nat),I n ρ H ∧ ∀ n ρ H,I n ρ H → mT call t (mE call t ρ H) ρ H λ r H' =>
     (r = true → mSs b ρ H' λ f ρ₁ H₁ => match f with
       | .next => ∃ m,m < n ∧ I m ρ₁ H₁
       | .ret v => Q (.ret v) ρ₁ H₁) ∧ (r = false → Q .next ρ H')
 | .forRange x n b,ρ,H,Q => mE call n ρ H λ u H₁ => match u with
   | .int n => 0 ≤ n ∧ n ≤ lim ∧ mFor (bindT [x] true) (λ _ => True) (λ ρ' H' Q' => mSs b ρ' H' Q') ((List.range n.toNat).map λ (i : Nat) => .int (i : Int)) ρ H₁ Q
   | _ => False
 | .forList xs one e b,ρ,H,Q => mE call e ρ H λ u H₁ => match u with
   | .ref l => (match H₁ l with
     | some (.list vs) => mFor (bindT xs one) (λ H' => H' l = some (.list vs)) (λ ρ' H' Q' => mSs b ρ' H' Q') vs ρ H₁ Q
     | _ => False)
   | _ => False
 | .ret e,ρ,H,Q => mO call e ρ H λ v H' => Q (.ret (v.getD .none)) ρ H'
 | .pass,ρ,H,Q => Q .next ρ H
 | .stop,_,_,_ => False
noncomputable def mSs : List MS → Locals → AHeap → SPost → Prop
 | [],ρ,H,Q => Q .next ρ H
 | s :: ss,ρ,H,Q => mS s ρ H λ f ρ₁ H₁ => match f with
   | .next => mSs ss ρ₁ H₁ Q
   | .ret v => Q (.ret v) ρ₁ H₁
end
end

end P_MSem

section P_S0
open PySem PySem.W PySem.Calls PyProof.Rows

noncomputable def cAddr : Cl → Addr
 | .buffer => 673 | .gap => 422 | .marker => 499 | .markers => 567 | .undolist => 275 | .recording => 739 | .piece => 699
noncomputable def fAddr : Fn → Addr
 | .need_writable => 48 | .reached => 55 | .tell_ahead => 62 | .tell_behind => 69 | .text_out => 76 | .text_in => 83 | .hung_out => 90 | .hung_in => 97 | .put_in => 104 | .insert => 120 | .delete => 127 | .replace => 134
 | .insert_piece => 177 | .marker_distance => 286 | .need_visible => 293 | .markers_ahead => 300 | .undo_insert => 307 | .undo_delete => 314 | .undo_row => 321 | .above_boundaries => 328 | .undo_group => 335 | .set_marker => 682
 | .deck => 748 | .draw => 755 | .law_buffer => 762 | .law_state => 767 | .law_command => 772 | .law => 779
 | .gap_init => 349 | .gap_size => 356 | .gap_codes => 370 | .gap_move => 377 | .gap_widen => 384 | .gap_insert => 391 | .gap_delete => 398
 | .marker_init => 475 | .mk_init => 515 | .mk_numbers => 522 | .mk_put => 529 | .mk_within => 543 | .mk_inserted => 550 | .mk_deleted => 557 | .mk_replaced => 564
 | .buf_init => 586 | .buf_size => 621 | .buf_codes => 635 | .buf_goto => 642 | .buf_is_modified => 656 | .buf_set_modified => 663 | .buf_touch => 670
 | .piece_init => 696 | .rec_init => 717 | .rec_comes => 724 | .rec_goes => 729
 | .ul_init => 204 | .ul_at => 218 | .ul_boundary => 225 | .ul_begin => 232 | .ul_state => 239 | .ul_insert => 246 | .ul_delete => 253 | .ul_renew => 265
noncomputable def bndAddr : Addr := 190
noncomputable def foot (H : AHeap) (a : Addr) : Prop := (∃ o,H a = some o ∧ ∀ xs,o ≠ .flist xs) ∨ ∃ x C k F,H x = some (.inst C k a F)
mutual
noncomputable def vrel (h : Heap) (P : Addr → Prop) : AV → Value → Prop
 | .none,v => v = .none
 | .bool b,v => v = .bool b
 | .int i,v => ∃ t,v = .int i t
 | .str s,v => ∃ t,v = .str s.str t
 | .ref a,v => v = .ref a
 | .tup xs,v => ∃ a vs,v = .ref a ∧ ¬ P a ∧ h.IsTuple a (List.toArray vs) ∧ vrels h P xs vs
noncomputable def vrels (h : Heap) (P : Addr → Prop) : List AV → List Value → Prop
 | [],vs => vs = []
 | x :: xs,vs => ∃ v r,vs = v :: r ∧ vrel h P x v ∧ vrels h P xs r
end
noncomputable def orel (h : Heap) (P : Addr → Prop) : Option AV → Option Value → Prop
 | none,v => v = none
 | some a,v => ∃ u,v = some u ∧ vrel h P a u
mutual
theorem vrel_mono {h h' : Heap} {P P' : Addr → Prop} (hk : ∀ a o,h.get? a = some o → ¬ P a → h'.get? a = some o ∧ ¬ P' a) : ∀ {a : AV} {v : Value},vrel h P a v → vrel h' P' a v
 | .none,_,r => r
 | .bool _,_,r => r
 | .int _,_,r => r
 | .str _,_,r => r
 | .ref _,_,r => r
 | .tup xs,_,⟨a,vs,e,np,⟨o,ho,r⟩,q⟩ => ⟨a,vs,e,(hk a o ho np).2,⟨o,(hk a o ho np).1,r⟩,vrels_mono hk q⟩
theorem vrels_mono {h h' : Heap} {P P' : Addr → Prop} (hk : ∀ a o,h.get? a = some o → ¬ P a → h'.get? a = some o ∧ ¬ P' a) : ∀ {xs : List AV} {vs : List Value},vrels h P xs vs → vrels h' P' xs vs
 | [],_,r => r
 | _ :: _,_,⟨v,r,e,a,b⟩ => ⟨v,r,e,vrel_mono hk a,vrels_mono hk b⟩
end
theorem orel_mono {h h' : Heap} {P P' : Addr → Prop} (hk : ∀ a o,h.get? a = some o → ¬ P a → h'.get? a = some o ∧ ¬ P' a) : ∀ {a : Option AV} {v : Option Value},orel h P a v → orel h' P' a v
 | none,_,r => r
 | some _,_,⟨u,e,r⟩ => ⟨u,e,vrel_mono hk r⟩
theorem vrels_length {h : Heap} {P : Addr → Prop} : ∀ {xs : List AV} {vs : List Value},vrels h P xs vs → vs.length = xs.length
 | [],_,r => by cases r; rfl
 | _ :: _,_,⟨v,r,e,_,b⟩ => by subst e; simp [vrels_length b]
theorem vrels_append {h : Heap} {P : Addr → Prop} : ∀ {xs ys : List AV} {vs us : List Value},vrels h P xs vs → vrels h P ys us → vrels h P (xs ++ ys) (vs ++ us)
 | [],_,_,_,r,q => by cases r; exact q
 | _ :: _,_,_,_,⟨v,r,e,a,b⟩,q => by subst e; exact ⟨v,_,rfl,a,vrels_append b q⟩
theorem vrels_nil {h : Heap} {P : Addr → Prop} : vrels h P [] [] := rfl
theorem vrels_one {h : Heap} {P : Addr → Prop} {a : AV} {v : Value} (r : vrel h P a v) : vrels h P [a] [v] := ⟨v,[],rfl,r,rfl⟩
theorem vrels_cons {h : Heap} {P : Addr → Prop} {a : AV} {v : Value} {xs : List AV} {vs : List Value} (r : vrel h P a v) (q : vrels h P xs vs) : vrels h P (a :: xs) (v :: vs) := ⟨v,vs,rfl,r,q⟩
theorem vrels_get {h : Heap} {P : Addr → Prop} : ∀ {xs : List AV} {vs : List Value} {i : Nat} {a : AV},vrels h P xs vs → xs[i]? = some a → ∃ v,vs[i]? = some v ∧ vrel h P a v
 | x :: xs,_,0,a,⟨v,r,e,p,q⟩,hi => by subst e; cases hi; exact ⟨v,rfl,p⟩
 | x :: xs,_,i + 1,a,⟨v,r,e,p,q⟩,hi => by
   subst e
   rw [List.getElem?_cons_succ] at hi ⊢
   exact vrels_get q hi
 | [],_,i,a,_,hi => by simp at hi
theorem vrels_set {h : Heap} {P : Addr → Prop} : ∀ {xs : List AV} {vs : List Value} {i : Nat} {a : AV} {v : Value},vrels h P xs vs → vrel h P a v → vrels h P (xs.set i a) (vs.set i v)
 | [],_,_,_,_,r,_ => by cases r; exact rfl
 | x :: xs,_,0,a,v,⟨u,r,e,p,q⟩,hv => by subst e; exact ⟨v,r,rfl,hv,q⟩
 | x :: xs,_,i + 1,a,v,⟨u,r,e,p,q⟩,hv => by subst e; exact ⟨u,_,rfl,p,vrels_set q hv⟩
theorem vrels_take {h : Heap} {P : Addr → Prop} : ∀ {xs : List AV} {vs : List Value} (n : Nat),vrels h P xs vs → vrels h P (xs.take n) (vs.take n)
 | _,_,0,_ => by simp only [List.take_zero]; exact rfl
 | [],_,_ + 1,r => by cases r; exact rfl
 | x :: xs,_,n + 1,⟨u,r,e,p,q⟩ => by subst e; exact ⟨u,_,rfl,p,vrels_take n q⟩
theorem vrels_drop {h : Heap} {P : Addr → Prop} : ∀ {xs : List AV} {vs : List Value} (n : Nat),vrels h P xs vs → vrels h P (xs.drop n) (vs.drop n)
 | _,_,0,r => r
 | [],_,_ + 1,r => by cases r; exact rfl
 | x :: xs,_,n + 1,⟨u,r,e,p,q⟩ => by subst e; exact vrels_drop n q
theorem vrels_reverse {h : Heap} {P : Addr → Prop} : ∀ {xs : List AV} {vs : List Value},vrels h P xs vs → vrels h P xs.reverse vs.reverse
 | [],_,r => by cases r; exact rfl
 | x :: xs,_,⟨u,r,e,p,q⟩ => by subst e; simp only [List.reverse_cons]; exact vrels_append (vrels_reverse q) (vrels_one p)
theorem vrels_replicate {h : Heap} {P : Addr → Prop} {a : AV} {v : Value} (r : vrel h P a v) : ∀ n,vrels h P (List.replicate n a) (List.replicate n v)
 | 0 => rfl
 | n + 1 => ⟨v,_,rfl,r,vrels_replicate r n⟩
theorem vrel_none {h : Heap} {P : Addr → Prop} : vrel h P .none .none := rfl
theorem vrel_bool {h : Heap} {P : Addr → Prop} {b : Bool} : vrel h P (.bool b) (.bool b) := rfl
theorem vrel_int {h : Heap} {P : Addr → Prop} {i : Int} {t : Tok} : vrel h P (.int i) (.int i t) := ⟨t,rfl⟩
theorem vrel_str {h : Heap} {P : Addr → Prop} {s : Sy} {t : Tok} : vrel h P (.str s) (.str s.str t) := ⟨t,rfl⟩
theorem vrel_ref {h : Heap} {P : Addr → Prop} {a : Addr} : vrel h P (.ref a) (.ref a) := rfl
theorem vrel_tup {h : Heap} {P : Addr → Prop} {xs : List AV} {a : Addr} {vs : List Value} (n : ¬ P a) (i : h.IsTuple a (List.toArray vs)) (r : vrels h P xs vs) : vrel h P (.tup xs) (.ref a) := ⟨a,vs,rfl,n,i,r⟩
noncomputable def drel (h : Heap) (P : Addr → Prop) : List (Int × AV) → List (Int × Value) → Prop
 | [],vs => vs = []
 | (k,x) :: xs,vs => ∃ v r,vs = (k,v) :: r ∧ vrel h P x v ∧ drel h P xs r
theorem drel_mono {h h' : Heap} {P P' : Addr → Prop} (hk : ∀ a o,h.get? a = some o → ¬ P a → h'.get? a = some o ∧ ¬ P' a) : ∀ {xs : List (Int × AV)} {vs : List (Int × Value)},drel h P xs vs → drel h' P' xs vs
 | [],_,r => r
 | (_,_) :: _,_,⟨v,r,e,a,b⟩ => ⟨v,r,e,vrel_mono hk a,drel_mono hk b⟩
section
variable (prog : Program) (w : World)
noncomputable def RObj (h : Heap) (P : Addr → Prop) (a : Addr) : AO → Prop
 | .list xs => ∃ vs,h.PlainList a (List.toArray vs) ∧ vrels h P xs vs
 | .flist xs => ∃ vs,h.IsList a (List.toArray vs) ∧ vrels h P xs vs
 | .inst C k d F => h.get? a = some (instObj (cAddr C) d) ∧ ∃ es n,h.get? d = some (dictOf es n) ∧ es.length ≤ k ∧ ∀ t,∃ r,getL (nm t) es = some r ∧ orel h P (F t) r
 | .idict es => ∃ kvs,h.DictOf (intKind prog w) a kvs ∧ drel h P es kvs
structure Conc (base : Heap) (H : AHeap) (h : Heap) : Prop where
 keep : ∀ b o,base.get? b = some o → h.get? b = some o
 obj : ∀ a o,H a = some o → RObj prog w h (foot H) a o
 own : ∀ a,foot H a → base.get? a = none
 inj : ∀ x y C k d F C' k' F',H x = some (.inst C k d F) → H y = some (.inst C' k' d F') → x = y
 apart : ∀ x C k d F,H x = some (.inst C k d F) → H d = none
 held : ∀ x xs,H x = some (.flist xs) → ∃ o,base.get? x = some o
structure Step (X : Addr → Prop) (H : AHeap) (h : Heap) (H' : AHeap) (h' : Heap) : Prop where
 keep : ∀ b o,h.get? b = some o → ¬ foot H b → ¬ X b → h'.get? b = some o
 foot : ∀ a,foot H' a → foot H a ∨ h.get? a = none
 live : ∀ a o,h.get? a = some o → ∃ o',h'.get? a = some o'
end
noncomputable def noX : Addr → Prop := λ _ => False
theorem Step.refl {X : Addr → Prop} {H : AHeap} {h : Heap} : Step X H h H h := ⟨λ _ _ e _ _ => e,λ _ x => .inl x,λ _ o e => ⟨o,e⟩⟩
theorem Step.trans {X : Addr → Prop} {H H₁ H₂ : AHeap} {h h₁ h₂ : Heap} (a : Step X H h H₁ h₁) (b : Step X H₁ h₁ H₂ h₂) : Step X H h H₂ h₂ where
 keep := λ c o e nf nx => b.keep c o (a.keep c o e nf nx) (λ f => (a.foot c f).elim nf λ q => by rw [e] at q; exact sn q) nx
 foot := λ c f => by
   rcases b.foot c f with q | q
   · exact a.foot c q
   · cases e : h.get? c with
     | none => exact .inr rfl
     | some o => obtain ⟨o',e'⟩ := a.live c o e; rw [q] at e'; exact nn e'
 live := λ c o e => by obtain ⟨o',e'⟩ := a.live c o e; exact b.live c o' e'
theorem Step.weaken {X Y : Addr → Prop} {H H₁ : AHeap} {h h₁ : Heap} (a : Step X H h H₁ h₁) (xy : ∀ c,X c → Y c) : Step Y H h H₁ h₁ :=
 ⟨λ b o e nf ny => a.keep b o e nf λ x => ny (xy b x),a.foot,a.live⟩
theorem Step.mono {H H₁ : AHeap} {h h₁ : Heap} (a : Step noX H h H₁ h₁) : ∀ c o,h.get? c = some o → ¬ Mine.foot H c → h₁.get? c = some o ∧ ¬ Mine.foot H₁ c :=
 λ c o e nf => ⟨a.keep c o e nf id,λ f => (a.foot c f).elim nf λ q => by rw [e] at q; exact sn q⟩
section
variable {prog : Program} {w : World} {base : Heap} {H : AHeap} {h : Heap}
theorem Conc.live (c : Conc prog w base H h) {a : Addr} (f : foot H a) : ∃ o,h.get? a = some o := by
 rcases f with ⟨o,e,_⟩ | ⟨x,C,k,F,e⟩
 · have q := c.obj a o e
   cases o with
   | list xs => obtain ⟨vs,⟨_,ho⟩,_⟩ := q; exact ⟨_,ho⟩
   | flist xs => obtain ⟨vs,⟨o,ho,_⟩,_⟩ := q; exact ⟨o,ho⟩
   | inst C k d F => exact ⟨_,q.1⟩
   | idict es => obtain ⟨kvs,⟨o,_,_,ho,_⟩,_⟩ := q; exact ⟨o,ho⟩
 · obtain ⟨_,es,n,hd,_⟩ := c.obj x _ e
   exact ⟨_,hd⟩
theorem Conc.dom (c : Conc prog w base H h) {a : Addr} {o : AO} (e : H a = some o) : ∃ o,h.get? a = some o := by
 have q := c.obj a o e
 cases o with
 | list xs => obtain ⟨vs,⟨_,ho⟩,_⟩ := q; exact ⟨_,ho⟩
 | flist xs => obtain ⟨vs,⟨o,ho,_⟩,_⟩ := q; exact ⟨o,ho⟩
 | inst C k d F => exact ⟨_,q.1⟩
 | idict es => obtain ⟨kvs,⟨o,_,_,ho,_⟩,_⟩ := q; exact ⟨o,ho⟩
theorem Conc.none_of (c : Conc prog w base H h) {a : Addr} (e : h.get? a = none) : H a = none ∧ ¬ foot H a := by
 refine ⟨?_,λ f => ?_⟩
 · cases q : H a with
   | none => rfl
   | some o => obtain ⟨o',e'⟩ := c.dom q; rw [e] at e'; exact nn e'
 · obtain ⟨o',e'⟩ := c.live f; rw [e] at e'; exact nn e'
theorem RObj_mono {h' : Heap} {P P' : Addr → Prop} {a : Addr} {o : AO} (hk : ∀ a o,h.get? a = some o → ¬ P a → h'.get? a = some o ∧ ¬ P' a) (r : RObj prog w h P a o) (ha : h'.get? a = h.get? a)
   (hd : ∀ C k d F,o = .inst C k d F → h'.get? d = h.get? d) : RObj prog w h' P' a o := by
 cases o with
 | list xs => obtain ⟨vs,⟨n,ho⟩,p⟩ := r; exact ⟨vs,⟨n,ha.trans ho⟩,vrels_mono hk p⟩
 | flist xs => obtain ⟨vs,⟨o,ho,q⟩,p⟩ := r; exact ⟨vs,⟨o,ha.trans ho,q⟩,vrels_mono hk p⟩
 | inst C k d F =>
   obtain ⟨r1,es,n,r2,r3,r4⟩ := r
   exact ⟨ha.trans r1,es,n,(hd C k d F rfl).trans r2,r3,λ t => by obtain ⟨u,a,b⟩ := r4 t; exact ⟨u,a,orel_mono hk b⟩⟩
 | idict es => obtain ⟨kvs,⟨o,es,ep,ho,q⟩,p⟩ := r; exact ⟨kvs,⟨o,es,ep,ha.trans ho,q⟩,drel_mono hk p⟩
theorem Conc.grown {h' : Heap} (c : Conc prog w base H h) (k : ∀ b o,h.get? b = some o → h'.get? b = some o) : Conc prog w base H h' ∧ Step noX H h H h' := by
 have hk : ∀ a o,h.get? a = some o → ¬ foot H a → h'.get? a = some o ∧ ¬ foot H a := λ a o e n => ⟨k a o e,n⟩
 refine ⟨⟨λ b o e => k b o (c.keep b o e),λ a o e => ?_,c.own,c.inj,c.apart,c.held⟩,⟨λ b o e _ _ => k b o e,λ _ f => .inl f,λ a o e => ⟨o,k a o e⟩⟩⟩
 refine RObj_mono hk (c.obj a o e) ?_ λ C k' d F z => ?_
 · obtain ⟨o',e'⟩ := c.dom e; rw [e',k a o' e']
 · subst z
   obtain ⟨o',e'⟩ := c.live (a := d) (.inr ⟨a,C,k',F,e⟩); rw [e',k d o' e']
end

end P_S0

section P_S1
open PySem PySem.W PySem.Calls PyProof.Rows

noncomputable def plainObj : AO → Bool
 | .list _ | .idict _ => true
 | _ => false
theorem plain_not_flist {o : AO} (p : plainObj o = true) : ∀ xs,o ≠ .flist xs := λ xs e => by subst e; exact ft p
theorem plain_not_inst {o : AO} (p : plainObj o = true) {C k d F} : o ≠ .inst C k d F := λ e => by subst e; exact ft p
theorem set_same (H : AHeap) (a : Addr) (o : AO) : (H.set a o) a = some o := if_pos rfl
theorem set_other (H : AHeap) {a b : Addr} (o : AO) (n : b ≠ a) : (H.set a o) b = H b := if_neg n
theorem foot_new {H : AHeap} {a : Addr} {o : AO} (n : H a = none) (p : plainObj o = true) (b : Addr) : foot (H.set a o) b ↔ foot H b ∨ b = a := by
 constructor
 · rintro (⟨q,e,z⟩ | ⟨x,C,k,F,e⟩)
   · by_cases h : b = a
     · exact .inr h
     · rw [set_other H o h] at e; exact .inl (.inl ⟨q,e,z⟩)
   · by_cases h : x = a
     · subst h; rw [set_same] at e; exact absurd (Option.some.inj e) (plain_not_inst p)
     · rw [set_other H o h] at e; exact .inl (.inr ⟨x,C,k,F,e⟩)
 · rintro ((⟨q,e,z⟩ | ⟨x,C,k,F,e⟩) | h)
   · have h : b ≠ a := λ h => by subst h; rw [n] at e; exact nn e
     exact .inl ⟨q,by rw [set_other H o h]; exact e,z⟩
   · have h : x ≠ a := λ h => by subst h; rw [n] at e; exact nn e
     exact .inr ⟨x,C,k,F,by rw [set_other H o h]; exact e⟩
   · subst h; exact .inl ⟨o,set_same ..,plain_not_flist p⟩
theorem foot_set {H : AHeap} {a : Addr} {o₀ o : AO} (e₀ : H a = some o₀) (p₀ : plainObj o₀ = true) (p : plainObj o = true) : foot (H.set a o) = foot H := by
 funext b
 apply propext
 constructor
 · rintro (⟨q,e,z⟩ | ⟨x,C,k,F,e⟩)
   · by_cases h : b = a
     · subst h; exact .inl ⟨o₀,e₀,plain_not_flist p₀⟩
     · rw [set_other H o h] at e; exact .inl ⟨q,e,z⟩
   · by_cases h : x = a
     · subst h; rw [set_same] at e; exact absurd (Option.some.inj e) (plain_not_inst p)
     · rw [set_other H o h] at e; exact .inr ⟨x,C,k,F,e⟩
 · rintro (⟨q,e,z⟩ | ⟨x,C,k,F,e⟩)
   · by_cases h : b = a
     · subst h; exact .inl ⟨o,set_same ..,plain_not_flist p⟩
     · exact .inl ⟨q,by rw [set_other H o h]; exact e,z⟩
   · have h : x ≠ a := λ h => by subst h; rw [e₀] at e; exact absurd (Option.some.inj e) (plain_not_inst p₀)
     exact .inr ⟨x,C,k,F,by rw [set_other H o h]; exact e⟩
theorem foot_inst {H : AHeap} {a d : Addr} {C k k' F F'} (e₀ : H a = some (.inst C k d F)) : foot (H.set a (.inst C k' d F')) = foot H := by
 funext b
 apply propext
 constructor
 · rintro (⟨q,e,z⟩ | ⟨x,C',k'',F'',e⟩)
   · by_cases h : b = a
     · subst h; exact .inl ⟨_,e₀,λ _ z => by cases z⟩
     · rw [set_other H _ h] at e; exact .inl ⟨q,e,z⟩
   · by_cases h : x = a
     · subst h; rw [set_same] at e; cases e; exact .inr ⟨_,_,_,_,e₀⟩
     · rw [set_other H _ h] at e; exact .inr ⟨x,C',k'',F'',e⟩
 · rintro (⟨q,e,z⟩ | ⟨x,C',k'',F'',e⟩)
   · by_cases h : b = a
     · subst h; exact .inl ⟨_,set_same ..,λ _ z => by cases z⟩
     · exact .inl ⟨q,by rw [set_other H _ h]; exact e,z⟩
   · by_cases h : x = a
     · subst h; rw [e₀] at e; cases e; exact .inr ⟨_,_,_,_,set_same ..⟩
     · exact .inr ⟨x,C',k'',F'',by rw [set_other H _ h]; exact e⟩
theorem foot_newInst {H : AHeap} {a d : Addr} {C k F} (n : H a = none) (b : Addr) : foot (H.set a (.inst C k d F)) b ↔ foot H b ∨ b = a ∨ b = d := by
 constructor
 · rintro (⟨q,e,z⟩ | ⟨x,C',k'',F'',e⟩)
   · by_cases h : b = a
     · exact .inr (.inl h)
     · rw [set_other H _ h] at e; exact .inl (.inl ⟨q,e,z⟩)
   · by_cases h : x = a
     · subst h; rw [set_same] at e; cases e; exact .inr (.inr rfl)
     · rw [set_other H _ h] at e; exact .inl (.inr ⟨x,C',k'',F'',e⟩)
 · rintro ((⟨q,e,z⟩ | ⟨x,C',k'',F'',e⟩) | h | h)
   · have h : b ≠ a := λ h => by subst h; rw [n] at e; exact nn e
     exact .inl ⟨q,by rw [set_other H _ h]; exact e,z⟩
   · have h : x ≠ a := λ h => by subst h; rw [n] at e; exact nn e
     exact .inr ⟨x,C',k'',F'',by rw [set_other H _ h]; exact e⟩
   · subst h; exact .inl ⟨_,set_same ..,λ _ z => by cases z⟩
   · subst h; exact .inr ⟨_,_,_,_,set_same ..⟩
section
variable {prog : Program} {w : World} {base : Heap} {H : AHeap} {h h' : Heap}
theorem Conc.setPlain (c : Conc prog w base H h) {a : Addr} {o₀ o : AO} (e₀ : H a = some o₀) (p₀ : plainObj o₀ = true) (p : plainObj o = true) (hs : Heap.SameBut a h h') (hlive : ∃ o',h'.get? a = some o')
   (r : RObj prog w h' (foot H) a o) : Conc prog w base (H.set a o) h' ∧ Step noX H h (H.set a o) h' := by
 have hf := foot_set e₀ p₀ p
 have fa : foot H a := .inl ⟨o₀,e₀,plain_not_flist p₀⟩
 have keep : ∀ b o,h.get? b = some o → ¬ foot H b → h'.get? b = some o := λ b o e n => (hs.2 b λ z => n (z ▸ fa)).trans e
 refine ⟨⟨λ b o e => ?_,λ b q e => ?_,λ b f => c.own b (hf ▸ f),λ x y C k d F C' k' F' e1 e2 => ?_,λ x C k d F e1 => ?_,λ x xs e1 => ?_⟩,⟨λ b o e n _ => keep b o e n,λ b f => .inl (hf ▸ f),λ b o e => ?_⟩⟩
 · refine keep b o (c.keep b o e) λ f => ?_
   have := c.own b f; rw [e] at this; exact sn this
 · rw [hf]
   by_cases hb : b = a
   · subst hb; rw [set_same] at e; cases e; exact r
   · rw [set_other H o hb] at e
     refine RObj_mono (λ c o e n => ⟨keep c o e n,n⟩) (c.obj b q e) (hs.2 b hb) λ C k d F z => hs.2 d λ hd => ?_
     subst z hd
     have := c.apart b C k d F e
     rw [e₀] at this; exact sn this
 · have n1 : x ≠ a := λ z => by subst z; rw [set_same] at e1; exact plain_not_inst p (Option.some.inj e1)
   have n2 : y ≠ a := λ z => by subst z; rw [set_same] at e2; exact plain_not_inst p (Option.some.inj e2)
   rw [set_other H o n1] at e1; rw [set_other H o n2] at e2
   exact c.inj x y C k d F C' k' F' e1 e2
 · have n1 : x ≠ a := λ z => by subst z; rw [set_same] at e1; exact plain_not_inst p (Option.some.inj e1)
   rw [set_other H o n1] at e1
   have := c.apart x C k d F e1
   have nd : d ≠ a := λ z => by subst z; rw [e₀] at this; exact sn this
   rw [set_other H o nd]; exact this
 · have n1 : x ≠ a := λ z => by subst z; rw [set_same] at e1; exact plain_not_flist p _ (Option.some.inj e1)
   rw [set_other H o n1] at e1; exact c.held x xs e1
 · by_cases hb : b = a
   · subst hb; exact hlive
   · exact ⟨o,(hs.2 b hb).trans e⟩
theorem Conc.newPlain (c : Conc prog w base H h) {a : Addr} {o : AO} (n : h.get? a = none) (p : plainObj o = true) (k : ∀ b o,h.get? b = some o → h'.get? b = some o)
   (r : RObj prog w h' (foot (H.set a o)) a o) : Conc prog w base (H.set a o) h' ∧ Step noX H h (H.set a o) h' := by
 obtain ⟨Hn,fn⟩ := c.none_of n
 have hf := λ b => foot_new (o := o) Hn p b
 have mono : ∀ c o',h.get? c = some o' → ¬ foot H c → h'.get? c = some o' ∧ ¬ foot (H.set a o) c := λ c o' e m => ⟨k c o' e,λ f => ((hf c).mp f).elim m λ z => by subst z; rw [n] at e; exact nn e⟩
 refine ⟨⟨λ b o e => k b o (c.keep b o e),λ b q e => ?_,λ b f => ?_,λ x y C k d F C' k' F' e1 e2 => ?_,λ x C k d F e1 => ?_,λ x xs e1 => ?_⟩,⟨λ b o e _ _ => k b o e,λ b f => ((hf b).mp f).elim Or.inl λ z => Or.inr (by rw [z]; exact n),λ b o e => ⟨o,k b o e⟩⟩⟩
 · by_cases hb : b = a
   · subst hb; rw [set_same] at e; cases e; exact r
   · rw [set_other H o hb] at e
     refine RObj_mono mono (c.obj b q e) ?_ λ C k' d F z => ?_
     · obtain ⟨o',e'⟩ := c.dom e; rw [e',k b o' e']
     · subst z; obtain ⟨o',e'⟩ := c.live (a := d) (.inr ⟨b,C,k',F,e⟩); rw [e',k d o' e']
 · rcases (hf b).mp f with f | z
   · exact c.own b f
   · subst z
     cases q : base.get? b with
     | none => rfl
     | some o' => rw [c.keep b o' q] at n; exact sn n
 · have n1 : x ≠ a := λ z => by subst z; rw [set_same] at e1; exact plain_not_inst p (Option.some.inj e1)
   have n2 : y ≠ a := λ z => by subst z; rw [set_same] at e2; exact plain_not_inst p (Option.some.inj e2)
   rw [set_other H o n1] at e1; rw [set_other H o n2] at e2
   exact c.inj x y C k d F C' k' F' e1 e2
 · have n1 : x ≠ a := λ z => by subst z; rw [set_same] at e1; exact plain_not_inst p (Option.some.inj e1)
   rw [set_other H o n1] at e1
   have nd : d ≠ a := λ z => by
     obtain ⟨o',e'⟩ := c.live (a := d) (.inr ⟨x,C,k,F,e1⟩)
     rw [z,n] at e'; exact nn e'
   rw [set_other H o nd]; exact c.apart x C k d F e1
 · have n1 : x ≠ a := λ z => by subst z; rw [set_same] at e1; exact plain_not_flist p _ (Option.some.inj e1)
   rw [set_other H o n1] at e1; exact c.held x xs e1
theorem Conc.setInst (c : Conc prog w base H h) {a d : Addr} {C : Cl} {k k' : Nat} {F F' : At → Option AV} (e₀ : H a = some (.inst C k d F)) (hs : Heap.SameBut d h h') (hlive : ∃ o',h'.get? d = some o')
   (r : RObj prog w h' (foot H) a (.inst C k' d F')) : Conc prog w base (H.set a (.inst C k' d F')) h' ∧ Step noX H h (H.set a (.inst C k' d F')) h' := by
 have hf := foot_inst (k' := k') (F' := F') e₀
 have fd : foot H d := .inr ⟨a,C,k,F,e₀⟩
 have Hd := c.apart a C k d F e₀
 have keep : ∀ b o,h.get? b = some o → ¬ foot H b → h'.get? b = some o := λ b o e n => (hs.2 b λ z => n (z ▸ fd)).trans e
 refine ⟨⟨λ b o e => ?_,λ b q e => ?_,λ b f => c.own b (hf ▸ f),λ x y C1 k1 d1 F1 C2 k2 F2 e1 e2 => ?_,λ x C1 k1 d1 F1 e1 => ?_,λ x xs e1 => ?_⟩,⟨λ b o e n _ => keep b o e n,λ b f => .inl (hf ▸ f),λ b o e => ?_⟩⟩
 · refine keep b o (c.keep b o e) λ f => ?_
   have := c.own b f; rw [e] at this; exact sn this
 · rw [hf]
   by_cases hb : b = a
   · subst hb; rw [set_same] at e; cases e; exact r
   · rw [set_other H _ hb] at e
     have hbd : b ≠ d := λ z => by subst z; rw [Hd] at e; exact nn e
     refine RObj_mono (λ c o e n => ⟨keep c o e n,n⟩) (c.obj b q e) (hs.2 b hbd) λ C1 k1 d1 F1 z => hs.2 d1 λ hd => ?_
     subst z hd
     exact hb (c.inj b a C1 k1 d1 F1 C k F e e₀)
 · have g : ∀ z C3 k3 F3,(H.set a (.inst C k' d F')) z = some (.inst C3 k3 d1 F3) → ∃ C4 k4 F4,H z = some (.inst C4 k4 d1 F4) := by
     intro z C3 k3 F3 e
     by_cases hz : z = a
     · subst hz; rw [set_same] at e; cases e; exact ⟨_,_,_,e₀⟩
     · rw [set_other H _ hz] at e; exact ⟨_,_,_,e⟩
   obtain ⟨_,_,_,g1⟩ := g x _ _ _ e1
   obtain ⟨_,_,_,g2⟩ := g y _ _ _ e2
   exact c.inj x y _ _ _ _ _ _ _ g1 g2
 · have g : ∃ C4 k4 F4,H x = some (.inst C4 k4 d1 F4) := by
     by_cases hz : x = a
     · subst hz; rw [set_same] at e1; cases e1; exact ⟨_,_,_,e₀⟩
     · rw [set_other H _ hz] at e1; exact ⟨_,_,_,e1⟩
   obtain ⟨_,_,_,g⟩ := g
   have := c.apart x _ _ _ _ g
   have nd : d1 ≠ a := λ z => by subst z; rw [e₀] at this; exact sn this
   rw [set_other H _ nd]; exact this
 · have n1 : x ≠ a := λ z => by subst z; rw [set_same] at e1; cases e1
   rw [set_other H _ n1] at e1; exact c.held x xs e1
 · by_cases hb : b = d
   · subst hb; exact hlive
   · exact ⟨o,(hs.2 b hb).trans e⟩
theorem Conc.newInst (c : Conc prog w base H h) {a d : Addr} {C : Cl} (na : h.get? a = none) (nd : h.get? d = none) (ad : a ≠ d) (k : ∀ b o,h.get? b = some o → h'.get? b = some o)
   (r : RObj prog w h' (foot (H.set a (.inst C 0 d λ _ => none))) a (.inst C 0 d λ _ => none)) : Conc prog w base (H.set a (.inst C 0 d λ _ => none)) h' ∧ Step noX H h (H.set a (.inst C 0 d λ _ => none)) h' := by
 obtain ⟨Ha,fa⟩ := c.none_of na
 obtain ⟨Hd,fd⟩ := c.none_of nd
 have hf := λ b => foot_newInst (d := d) (C := C) (k := 0) (F := λ _ => none) Ha b
 have mono : ∀ c o',h.get? c = some o' → ¬ foot H c → h'.get? c = some o' ∧ ¬ foot (H.set a (.inst C 0 d λ _ => none)) c := λ c o' e m => ⟨k c o' e,λ f => by
   rcases (hf c).mp f with f | z | z
   · exact m f
   · subst z; rw [na] at e; exact nn e
   · subst z; rw [nd] at e; exact nn e⟩
 have bn : ∀ b,h.get? b = none → base.get? b = none := λ b n => by
   cases q : base.get? b with
   | none => rfl
   | some o' => rw [c.keep b o' q] at n; exact sn n
 refine ⟨⟨λ b o e => k b o (c.keep b o e),λ b q e => ?_,λ b f => ?_,λ x y C1 k1 d1 F1 C2 k2 F2 e1 e2 => ?_,λ x C1 k1 d1 F1 e1 => ?_,λ x xs e1 => ?_⟩,⟨λ b o e _ _ => k b o e,λ b f => ?_,λ b o e => ⟨o,k b o e⟩⟩⟩
 · by_cases hb : b = a
   · subst hb; rw [set_same] at e; cases e; exact r
   · rw [set_other H _ hb] at e
     refine RObj_mono mono (c.obj b q e) ?_ λ C k' d F z => ?_
     · obtain ⟨o',e'⟩ := c.dom e; rw [e',k b o' e']
     · subst z; obtain ⟨o',e'⟩ := c.live (a := d) (.inr ⟨b,C,k',F,e⟩); rw [e',k d o' e']
 · rcases (hf b).mp f with f | z | z
   · exact c.own b f
   · exact bn b (z ▸ na)
   · exact bn b (z ▸ nd)
 · have old : ∀ z C3 k3 d3 F3,z ≠ a → (H.set a (.inst C 0 d λ _ => none)) z = some (.inst C3 k3 d3 F3) → d3 ≠ d := by
     intro z C3 k3 d3 F3 hz e q
     rw [set_other H _ hz] at e
     obtain ⟨o',e'⟩ := c.live (a := d3) (.inr ⟨z,C3,k3,F3,e⟩)
     rw [q,nd] at e'; exact nn e'
   by_cases hx : x = a
   · by_cases hy : y = a
     · rw [hx,hy]
     · subst hx; rw [set_same] at e1; cases e1; exact absurd rfl (old y _ _ _ _ hy e2)
   · by_cases hy : y = a
     · subst hy; rw [set_same] at e2; cases e2; exact absurd rfl (old x _ _ _ _ hx e1)
     · rw [set_other H _ hx] at e1; rw [set_other H _ hy] at e2; exact c.inj x y _ _ _ _ _ _ _ e1 e2
 · by_cases hx : x = a
   · subst hx; rw [set_same] at e1; cases e1; rw [set_other H _ (Ne.symm ad)]; exact Hd
   · rw [set_other H _ hx] at e1
     have n1 : d1 ≠ a := λ z => by
       obtain ⟨o',e'⟩ := c.live (a := d1) (.inr ⟨x,C1,k1,F1,e1⟩)
       rw [z,na] at e'; exact nn e'
     rw [set_other H _ n1]; exact c.apart x _ _ _ _ e1
 · have n1 : x ≠ a := λ z => by subst z; rw [set_same] at e1; cases e1
   rw [set_other H _ n1] at e1; exact c.held x xs e1
 · rcases (hf b).mp f with f | z | z
   · exact .inl f
   · exact .inr (z ▸ na)
   · exact .inr (z ▸ nd)
end
section
variable {α β : Type} {prog : Program} {w : World}
inductive EP (prog : Program) (w : World) (rel : Heap → (Addr → Prop) → α → β → Prop) (base : Heap) (s : Shared) (H : AHeap) (Q : α → AHeap → Prop) (b : β) (s' : Shared) : Prop
 | mk (a : α) (H' : AHeap) (h' : Heap) (tk : Nat) (e : s' = { s with heap := h',toks := tk }) (c : Conc prog w base H' h') (st : Step noX H s.heap H' h') (r : rel h' (foot H') a b) (q : Q a H')
noncomputable def eqr : Heap → (Addr → Prop) → α → α → Prop := λ _ _ a b => a = b
theorem EP.at {rel : Heap → (Addr → Prop) → α → β → Prop} {base : Heap} {s : Shared} {H H' : AHeap} {Q : α → AHeap → Prop} {a : α} {b : β} {h' : Heap} {tk : Nat} (c : Conc prog w base H' h') (st : Step noX H s.heap H' h')
   (r : rel h' (foot H') a b) (q : Q a H') : EP prog w rel base s H Q b { s with heap := h',toks := tk } := ⟨a,H',h',tk,rfl,c,st,r,q⟩
theorem EP.here {rel : Heap → (Addr → Prop) → α → β → Prop} {base : Heap} {s : Shared} {H : AHeap} {Q : α → AHeap → Prop} {a : α} {b : β} (c : Conc prog w base H s.heap)
   (r : rel s.heap (foot H) a b) (q : Q a H) : EP prog w rel base s H Q b s := ⟨a,H,s.heap,s.toks,rfl,c,.refl,r,q⟩
theorem EP.toks {rel : Heap → (Addr → Prop) → α → β → Prop} {base : Heap} {s : Shared} {H : AHeap} {Q : α → AHeap → Prop} {a : α} {b : β} {tk : Nat} (c : Conc prog w base H s.heap)
   (r : rel s.heap (foot H) a b) (q : Q a H) : EP prog w rel base s H Q b { s with toks := tk } := ⟨a,H,s.heap,tk,rfl,c,.refl,r,q⟩
theorem EP.grown {rel : Heap → (Addr → Prop) → α → β → Prop} {base : Heap} {s : Shared} {H : AHeap} {Q : α → AHeap → Prop} {a : α} {b : β} {h' : Heap} {tk : Nat} (c : Conc prog w base H s.heap)
   (k : ∀ b o,s.heap.get? b = some o → h'.get? b = some o) (r : rel h' (foot H) a b) (q : Q a H) : EP prog w rel base s H Q b { s with heap := h',toks := tk } :=
 ⟨a,H,h',tk,rfl,(c.grown k).1,(c.grown k).2,r,q⟩
theorem EP.chain {γ δ : Type} {rel : Heap → (Addr → Prop) → γ → δ → Prop} {base : Heap} {s : Shared} {H H₁ : AHeap} {Q : γ → AHeap → Prop} {b : δ} {s' : Shared} {h₁ : Heap} {tk : Nat}
   (st : Step noX H s.heap H₁ h₁) (p : EP prog w rel base { s with heap := h₁,toks := tk } H₁ Q b s') : EP prog w rel base s H Q b s' := by
 obtain ⟨a,H',h',tk',e,c,st',r,q⟩ := p
 exact ⟨a,H',h',tk',e,c,st.trans st',r,q⟩
theorem bindP {γ δ : Type} {M : Model} {A : Around} {E : Value → Shared → Prop} {rel : Heap → (Addr → Prop) → α → β → Prop} {rel₂ : Heap → (Addr → Prop) → γ → δ → Prop} {base : Heap} {s : Shared} {H : AHeap} {Q₁ : α → AHeap → Prop} {Q₂ : γ → AHeap → Prop}
   {t₁ : Sem β} {t₂ : β → Sem δ} (h1 : wpAny M A t₁ (EP prog w rel base s H Q₁) E s)
   (h2 : ∀ a b H₁ h₁ tk,Conc prog w base H₁ h₁ → Step noX H s.heap H₁ h₁ → rel h₁ (foot H₁) a b → Q₁ a H₁ → wpAny M A (t₂ b) (EP prog w rel₂ base { s with heap := h₁,toks := tk } H₁ Q₂) E { s with heap := h₁,toks := tk }) :
   wpAny M A t₁ (λ b s₁ => wpAny M A (t₂ b) (EP prog w rel₂ base s H Q₂) E s₁) E s :=
 wpAny_mono h1 (λ b s₁ z => by
   obtain ⟨a,H₁,h₁,tk,e,c,st,r,q⟩ := z
   subst e
   exact wpAny_mono (h2 a b H₁ h₁ tk c st r q) (λ _ _ p => EP.chain st p) λ _ _ x => x) λ _ _ x => x
theorem monoP {M : Model} {A : Around} {E : Value → Shared → Prop} {rel : Heap → (Addr → Prop) → α → β → Prop} {base : Heap} {s : Shared} {H : AHeap} {Q₁ : α → AHeap → Prop} {t₁ : Sem β} {R : β → Shared → Prop}
   (h1 : wpAny M A t₁ (EP prog w rel base s H Q₁) E s)
   (h2 : ∀ a b H₁ h₁ tk,Conc prog w base H₁ h₁ → Step noX H s.heap H₁ h₁ → rel h₁ (foot H₁) a b → Q₁ a H₁ → R b { s with heap := h₁,toks := tk }) : wpAny M A t₁ R E s :=
 wpAny_mono h1 (λ b s₁ ⟨a,H₁,h₁,tk,e,c,st,r,q⟩ => by subst e; exact h2 a b H₁ h₁ tk c st r q) λ _ _ x => x
end

end P_S1

section P_S2
open PySem PySem.W PySem.Calls PyProof.Rows

noncomputable def Blt.val : Blt → Value
 | .len => .builtin "len" | .list => .type "list" | .range => .type "range" | .sorted => .builtin "sorted" | .abs => .builtin "abs" | .min => .builtin "min" | .max => .builtin "max"
structure KOk (K : Frag) : Prop where
 glob : ∀ p ∈ glTab,match p.2 with
   | .fn f => nsIn K mainGlobals p.1 = some (some (.ref (fAddr f)))
   | .cls C => nsIn K mainGlobals p.1 = some (some (.ref (cAddr C)))
   | .bnd => nsIn K mainGlobals p.1 = some (some (.ref bndAddr))
   | .blt b => nsIn K mainGlobals p.1 = some none ∧ p.1 = Str.ofString b.id
   | .other => True
 get : ∀ C a,isField C a = true → plainGet K (cAddr C) (nm a) = true ∧ findIn K (.ref (cAddr C)) (nm a) = some none ∧ takerIn K (cAddr C) (nm a) = some none
 dict : ∀ C,hasDictIn K (cAddr C) = true ∧ findIn K (.ref (cAddr C)) "__setattr__" = some (some (.builtin "object.__setattr__")) ∧ plainOver K (cAddr C) = true
 meth : ∀ C a f,methodOf C a = some f → plainGet K (cAddr C) (nm a) = true ∧ findIn K (.ref (cAddr C)) (nm a) = some (some (.ref (fAddr f)))
 fns : ∀ f,isFn K (.ref (fAddr f)) = true ∧ keepIn K (.ref (fAddr f)) = true
 cls : ∀ C,makesIn K (cAddr C) = true ∧ findIn K (.ref (cAddr C)) "__init__" = some (some (.ref (fAddr (initOf C)))) ∧ keepIn K (.ref (cAddr C)) = true
 bnd : ∃ o t n,K.lookup bndAddr = some o ∧ o.cls = .type "tuple" ∧ o.data = .seq #[.str (Str.ofString "boundary") t] n
structure Stat (K : Frag) (base : Heap) : Prop where
 X : K.In base
 lim : base.NoLimit
 mods : ∃ o,base.get? sysModules = some o
 blt : ∃ mb,base.Ns builtinsNs mb ∧ ∀ b : Blt,mb (Str.ofString b.id) = some b.val
 ok : KOk K
structure Rc (A : Around) (n : Nat) : Prop where
 handled : A.handled = none
 depth : A.depth + 50 * n + 10 ≤ 990
 units : A.units + 500 * n + 100 ≤ 9000
structure Re (A : Around) (n k : Nat) : Prop where
 handled : A.handled = none
 depth : A.depth + 50 * n + 12 + k ≤ 990
 units : A.units + 500 * n + 120 + 10 * k ≤ 9000
theorem Re.rc {A : Around} {n k : Nat} (r : Re A n k) : Rc A n := ⟨r.handled,by have := r.depth; exact (ar (.i (.l (.a (.a (.a N0 (.m 50 N1)) (.k 12)) N2) (.k 990)) (.l (.a (.a N0 (.m 50 N1)) (.k 10)) (.k 990))) 3 [_,_,_] []) this,by have := r.units; exact (ar (.i (.l (.a (.a (.a N0 (.m 500 N1)) (.k 120)) (.m 10 N2)) (.k 9000)) (.l (.a (.a N0 (.m 500 N1)) (.k 100)) (.k 9000))) 3 [_,_,_] []) this⟩
theorem Re.less {A : Around} {n k : Nat} (r : Re A n (k + 1)) : Re A n k := ⟨r.handled,by have := r.depth; exact (ar (.i (.l (.a (.a (.a N0 (.m 50 N1)) (.k 12)) (.a N2 K1)) (.k 990)) (.l (.a (.a (.a N0 (.m 50 N1)) (.k 12)) N2) (.k 990))) 3 [_,_,_] []) this,by have := r.units; exact (ar (.i (.l (.a (.a (.a N0 (.m 500 N1)) (.k 120)) (.m 10 (.a N2 K1))) (.k 9000)) (.l (.a (.a (.a N0 (.m 500 N1)) (.k 120)) (.m 10 N2)) (.k 9000))) 3 [_,_,_] []) this⟩
theorem Re.lt {A : Around} {n k : Nat} (r : Re A n k) : A.units + 100 < cLine := by have := r.units; unfold cLine; exact (ar (.i (.l (.a (.a (.a N0 (.m 500 N1)) (.k 120)) (.m 10 N2)) (.k 9000)) (.t (.a N0 (.k 100)) (.k 9900))) 3 [_,_,_] []) this
theorem Re.lt5 {A : Around} {n k : Nat} (r : Re A n k) : A.units + 5 < cLine := by have := r.units; unfold cLine; exact (ar (.i (.l (.a (.a (.a N0 (.m 500 N1)) (.k 120)) (.m 10 N2)) (.k 9000)) (.t (.a N0 K5) (.k 9900))) 3 [_,_,_] []) this
theorem at_all : ∀ a : At,(atOf (nm a)) = some a := by intro a; cases a <;> decide +kernel
theorem nm_inj (a b : At) (h : nm a = nm b) : a = b := Option.some.inj ((at_all a).symm.trans ((congrArg atOf h).trans (at_all b)))
structure FrameRel (env : Env) (sc : Sco) (ρ : Locals) (H : AHeap) (h : Heap) : Prop where
 kind : env.scope.kind = .function
 names : ∀ x,env.kindOf x = sc.kind x
 glob : env.globals = mainGlobals
 blt : env.builtins = builtinsNs
 code : ∀ x i,sc.code x = some i → sc.kind x = some .local ∨ sc.kind x = some .cell
 inj : ∀ x y i,sc.code x = some i → sc.code y = some i → x = y
 loc : ∃ m,h.Ns env.locals m ∧ ∀ x i,sc.code x = some i → sc.kind x = some .local → orel h (foot H) (ρ i) (m x)
 cel : ∀ x i,sc.code x = some i → sc.kind x = some .cell → ∃ c v,env.cells.lookup x = some c ∧ h.IsCell c v ∧ orel h (foot H) (ρ i) v
 off : ¬ foot H env.locals
 offc : ∀ x i c,sc.code x = some i → sc.kind x = some .cell → env.cells.lookup x = some c → ¬ foot H c ∧ c ≠ env.locals
 apart : ∀ x y i j c,sc.code x = some i → sc.kind x = some .cell → sc.code y = some j → sc.kind y = some .cell → env.cells.lookup x = some c → env.cells.lookup y = some c → x = y
 dbg : sc.kind (Str.ofString "__debug__") = none ∧ sc.code (Str.ofString "__debug__") = none
theorem FrameRel.step {env : Env} {sc : Sco} {ρ : Locals} {H H' : AHeap} {h h' : Heap} (F : FrameRel env sc ρ H h) (st : Step noX H h H' h') : FrameRel env sc ρ H' h' where
 kind := F.kind
 names := F.names
 glob := F.glob
 blt := F.blt
 code := F.code
 inj := F.inj
 loc := by
   obtain ⟨m,⟨o,es,ep,ho,r⟩,q⟩ := F.loc
   exact ⟨m,⟨o,es,ep,st.keep _ _ ho F.off id,r⟩,λ x i a b => orel_mono st.mono (q x i a b)⟩
 cel := λ x i a b => by
   obtain ⟨c,v,e,⟨o,ho,hd⟩,r⟩ := F.cel x i a b
   exact ⟨c,v,e,⟨o,st.keep _ _ ho (F.offc x i c a b e).1 id,hd⟩,orel_mono st.mono r⟩
 off := λ f => by
   obtain ⟨m,⟨o,es,ep,ho,r⟩,q⟩ := F.loc
   exact (st.mono _ _ ho F.off).2 f
 offc := λ x i c a b e => by
   obtain ⟨c',v,e',⟨o,ho,hd⟩,r⟩ := F.cel x i a b
   rw [e] at e'; cases e'
   exact ⟨λ f => (st.mono _ _ ho (F.offc x i c a b e).1).2 f,(F.offc x i c a b e).2⟩
 apart := F.apart
 dbg := F.dbg
section
variable {prog : Program} {w : World} {K : Frag} {base : Heap} {A : Around} {E : Value → Shared → Prop} {s : Shared} {H : AHeap} {env : Env} {sc : Sco} {ρ : Locals} {n : Nat}
theorem Stat.at (S : Stat K base) (c : Conc prog w base H s.heap) : K.In s.heap := S.X.keeps c.keep
theorem gl_mem {x : Str} {g : Gl} (e : gl x = g) (ne : g ≠ .other) : (x,g) ∈ glTab := by
 unfold gl at e
 split at e
 · rename_i p hp
   have h1 := List.mem_of_find?_eq_some hp
   have h2 := List.find?_some hp
   have : p.1 = x := by simpa using h2
   obtain ⟨a,b⟩ := p
   simp only at this e
   subst this e
   exact h1
 · exact absurd e.symm ne
theorem loadGlobal_K {x : Str} {v : Value} {Q : Value → Shared → Prop} (X : K.In s.heap) (e : nsIn K mainGlobals x = some (some v)) (hk : env.scope.kind = .function) (hx : env.kindOf x = some .globalImplicit) (hg : env.globals = mainGlobals)
   (h : Q v s) : wpAny (model prog w) A (loadName env x) Q E s := by
 rw [loadName_read hk hx]
 unfold loadGlobal
 rw [hg]
 refine wpAny_bind ((looks_nsIn X e).here ?_)
 exact wpAny_pure h
theorem loadGlobal_B {x : Str} {v : Value} {mb : Str → Option Value} {Q : Value → Shared → Prop} (X : K.In s.heap) (e : nsIn K mainGlobals x = some none) (hb' : s.heap.Ns builtinsNs mb) (hv : mb x = some v) (hk : env.scope.kind = .function) (hx : env.kindOf x = some .globalImplicit) (hg : env.globals = mainGlobals)
   (hbn : env.builtins = builtinsNs) (h : Q v s) : wpAny (model prog w) A (loadName env x) Q E s := by
 rw [loadName_read hk hx]
 unfold loadGlobal
 rw [hg,hbn]
 refine wpAny_bind ((looks_nsIn X e).here ?_)
 refine wpAny_bind (wpAny_nsGet hb' ?_)
 rw [hv]
 exact wpAny_pure h
theorem name_fn (S : Stat K base) (c : Conc prog w base H s.heap) (F : FrameRel env sc ρ H s.heap) {x : Str} {pos : Pos} {f : Fn} {Q : Value → Shared → Prop} (hk : sc.kind x = some .globalImplicit) (e : gl x = .fn f) (h : Q (.ref (fAddr f)) s) :
   wpAny (model prog w) A (eval (.Name x pos) env) Q E s :=
 wpAny_Name (loadGlobal_K (S.at c) (S.ok.glob _ (gl_mem e (by intro z; cases z))) F.kind ((F.names x).trans hk) F.glob h) (by
   rw [beq_eq_false_iff_ne]; intro z; subst z; rw [F.dbg.1] at hk; exact nn hk)
theorem name_cls (S : Stat K base) (c : Conc prog w base H s.heap) (F : FrameRel env sc ρ H s.heap) {x : Str} {pos : Pos} {C : Cl} {Q : Value → Shared → Prop} (hk : sc.kind x = some .globalImplicit) (e : gl x = .cls C) (h : Q (.ref (cAddr C)) s) :
   wpAny (model prog w) A (eval (.Name x pos) env) Q E s :=
 wpAny_Name (loadGlobal_K (S.at c) (S.ok.glob _ (gl_mem e (by intro z; cases z))) F.kind ((F.names x).trans hk) F.glob h) (by
   rw [beq_eq_false_iff_ne]; intro z; subst z; rw [F.dbg.1] at hk; exact nn hk)
theorem name_blt (S : Stat K base) (c : Conc prog w base H s.heap) (F : FrameRel env sc ρ H s.heap) {x : Str} {pos : Pos} {b : Blt} {Q : Value → Shared → Prop} (hk : sc.kind x = some .globalImplicit) (e : gl x = .blt b) (h : Q b.val s) :
   wpAny (model prog w) A (eval (.Name x pos) env) Q E s := by
 obtain ⟨mb,⟨o,es,ep,ho,r⟩,q⟩ := S.blt
 obtain ⟨g1,g2⟩ : nsIn K mainGlobals x = some none ∧ x = Str.ofString b.id := S.ok.glob _ (gl_mem e (by intro z; cases z))
 exact wpAny_Name (loadGlobal_B (S.at c) g1 ⟨o,es,ep,c.keep _ _ ho,r⟩ (g2 ▸ q b) F.kind ((F.names x).trans hk) F.glob F.blt h) (by
   rw [beq_eq_false_iff_ne]; intro z; subst z; rw [F.dbg.1] at hk; exact nn hk)
theorem name_bnd (S : Stat K base) (c : Conc prog w base H s.heap) (F : FrameRel env sc ρ H s.heap) {x : Str} {pos : Pos} {Q : AV → AHeap → Prop} (hk : sc.kind x = some .globalImplicit) (e : gl x = .bnd) (h : Q (.tup [.str .boundary]) H) :
   wpAny (model prog w) A (eval (.Name x pos) env) (EP prog w vrel base s H Q) E s := by
 refine wpAny_Name (loadGlobal_K (S.at c) (S.ok.glob _ (gl_mem e (by intro z; cases z))) F.kind ((F.names x).trans hk) F.glob (EP.here c ?_ h)) (by
   rw [beq_eq_false_iff_ne]; intro z; subst z; rw [F.dbg.1] at hk; exact nn hk)
 obtain ⟨o,t,m,h1,h2,h3⟩ := S.ok.bnd
 have hb := S.X _ _ h1
 have np : ¬ foot H bndAddr := λ f => by have := c.own _ f; rw [hb] at this; exact sn this
 have it : s.heap.IsTuple bndAddr (List.toArray [.str (Str.ofString "boundary") t]) := ⟨o,c.keep _ _ hb,h2,m,h3⟩
 exact ⟨bndAddr,_,rfl,np,it,vrels_one ⟨t,rfl⟩⟩
theorem name_var (c : Conc prog w base H s.heap) (F : FrameRel env sc ρ H s.heap) {x : Str} {pos : Pos} {i : Nat} {a : AV} {Q : AV → AHeap → Prop} (hi : sc.code x = some i) (hv : ρ i = some a) (h : Q a H) :
   wpAny (model prog w) A (eval (.Name x pos) env) (EP prog w vrel base s H Q) E s := by
 have dbg : (x == (Str.ofString "__debug__")) = false := by
   rw [beq_eq_false_iff_ne]; intro z; subst z; rw [F.dbg.2] at hi; exact nn hi
 rcases F.code x i hi with hk | hk
 · obtain ⟨m,hn,q⟩ := F.loc
   have r := q x i hi hk
   rw [hv] at r
   obtain ⟨u,e,r⟩ := r
   exact wpAny_Name (wpAny_loadName_local F.kind ((F.names x).trans hk) hn e (EP.here c r h)) dbg
 · obtain ⟨cl,v,e,hc,r⟩ := F.cel x i hi hk
   rw [hv] at r
   obtain ⟨u,e',r⟩ := r
   subst e'
   exact wpAny_Name (wpAny_loadName_cell F.kind ((F.names x).trans hk) e hc (EP.here c r h)) dbg
theorem handed {a : AV} {v : Value} {h : Heap} {P : Addr → Prop} (r : vrel h P a v) : handedIn v = true := by
 cases a with
 | none => cases r; rfl
 | bool b => cases r; rfl
 | int i => obtain ⟨t,rfl⟩ := r; rfl
 | str s => obtain ⟨t,rfl⟩ := r; rfl
 | ref a => cases r; rfl
 | tup xs => obtain ⟨a,vs,rfl,_⟩ := r; rfl
theorem inst_at (c : Conc prog w base H s.heap) {x d : Addr} {C : Cl} {k : Nat} {F : At → Option AV} (hx : H x = some (.inst C k d F)) :
   ∃ es n,InstAt s.heap x (instObj (cAddr C) d) (cAddr C) (some (dictOf es n)) ∧ s.heap.get? d = some (dictOf es n) ∧ es.length ≤ k ∧ ∀ t,∃ r,getL (nm t) es = some r ∧ orel s.heap (foot H) (F t) r := by
 obtain ⟨r1,es,n,r2,r3,r4⟩ := c.obj x _ hx
 exact ⟨es,n,⟨r1,rfl,rfl,r2⟩,r2,r3,r4⟩
theorem get_field (S : Stat K base) (c : Conc prog w base H s.heap) {x d : Addr} {C : Cl} {k : Nat} {F : At → Option AV} {a : At} {u : AV} {expr : Bool} {Q : AV → AHeap → Prop} (hx : H x = some (.inst C k d F)) (hf : isField C a = true) (ha : F a = some u)
   (h : Q u H) : wpAny (model prog w) A (getAttr (.ref x) (nm a) expr) (EP prog w vrel base s H Q) E s := by
 obtain ⟨es,m,I,hd,_,hg⟩ := inst_at c hx
 obtain ⟨g1,g2,g3⟩ := S.ok.get C a hf
 obtain ⟨d1,d2,d3⟩ := S.ok.dict C
 obtain ⟨r,e1,r⟩ := hg a
 rw [ha] at r
 obtain ⟨v,e2,r⟩ := r
 subst e2
 exact get_value (S.at c) I (plainGet_of g1).1 (findObj_own d1 g2 rfl (by rw [lookIn_dict]; exact e1)) (handed r) (EP.toks c r h)
theorem get_method (S : Stat K base) (c : Conc prog w base H s.heap) {x d : Addr} {C : Cl} {k : Nat} {F : At → Option AV} {a : At} {f : Fn} {pl : Sem Bool} {Q : Value × List Value → Shared → Prop} (hx : H x = some (.inst C k d F)) (hf : methodOf C a = some f) (ha : F a = none)
   (h : Q (.ref (fAddr f),[.ref x]) s) : wpAny (model prog w) A (getMethod (.ref x) (nm a) pl) Q E s := by
 obtain ⟨es,m,I,hd,_,hg⟩ := inst_at c hx
 obtain ⟨g1,g2⟩ := S.ok.meth C a f hf
 obtain ⟨r,e1,r⟩ := hg a
 rw [ha] at r
 cases r
 exact method_fn (S.at c) I (plainGet_of g1).1 (plainGet_of g1).2 g2 (beq_iff_eq.mp (S.ok.fns f).1) (by refine (?_ : (lookIn (nm a) (dictOf es m)).map _ = _); rw [lookIn_dict,e1]; rfl) h
theorem getL_nil (name : Str) : getL name [] = some none := rfl
theorem getL_cons (name : Str) (x : DictEntry) (es : List DictEntry) : getL name (x :: es) = if x.key.isStr name = true then some (some x.val) else if x.refKey = true then (match getL name es with | some (some v) => some (some v) | _ => none) else getL name es := by
 unfold getL
 rw [List.find?_cons,List.any_cons]
 cases x.key.isStr name with
 | true => rfl
 | false =>
   simp only [Bool.false_eq_true,if_false]
   cases x.refKey with
   | true =>
     simp only [Bool.true_or,if_true]
     cases List.find? (λ e => e.key.isStr name) es with
     | some y => rfl
     | none => simp only; split <;> first | rfl | (split at * <;> simp_all)
   | false => simp only [Bool.false_or,Bool.false_eq_true,if_false]
theorem putL_nil (name : Str) (hsh : Int) (key v : Value) : putL name hsh key v [] = [⟨hsh,key,v⟩] := rfl
theorem putL_cons (name : Str) (hsh : Int) (key v : Value) (x : DictEntry) (es : List DictEntry) : putL name hsh key v (x :: es) = if x.key.isStr name = true then ⟨x.hash,x.key,v⟩ :: es else x :: putL name hsh key v es := rfl
theorem getL_put (name name' : Str) (hsh : Int) (t : Tok) (v : Value) : ∀ (es : List DictEntry) (r : Option Value),getL name es = some r → getL name (putL name' hsh (.str name' t) v es) = some (if name = name' then some v else r)
 | [],r,e => by
   rw [getL_nil] at e
   cases e
   rw [putL_nil,getL_cons,getL_nil]
   by_cases h : name = name'
   · subst h; simp [Value.isStr]
   · have h' : ¬ name' = name := λ z => h z.symm
     simp [Value.isStr,DictEntry.refKey,h,h']
 | x :: es,r,e => by
   rw [getL_cons] at e
   rw [putL_cons]
   by_cases hx' : x.key.isStr name' = true
   · rw [if_pos hx',getL_cons]
     by_cases h : name = name'
     · subst h; rw [if_pos hx',if_pos rfl]
     · have hx : ¬ x.key.isStr name = true := by
         intro q
         cases hk : x.key <;> rw [hk] at q hx' <;> simp_all [Value.isStr]
       rw [if_neg hx] at e ⊢
       rw [if_neg h]
       exact e
   · rw [if_neg hx',getL_cons]
     by_cases hx : x.key.isStr name = true
     · rw [if_pos hx] at e ⊢
       have h : ¬ name = name' := λ z => hx' (z ▸ hx)
       rw [if_neg h]; exact e
     · rw [if_neg hx] at e ⊢
       by_cases hy : x.refKey = true
       · rw [if_pos hy] at e ⊢
         cases hz : getL name es with
         | none => rw [hz] at e; exact nn e
         | some q =>
           rw [hz] at e
           cases q with
           | none => exact nn e
           | some u =>
             cases e
             rw [getL_put name name' hsh t v es _ hz]
             by_cases h : name = name' <;> simp [h]
       · rw [if_neg hy] at e ⊢
         exact getL_put name name' hsh t v es r e
theorem putL_len (name : Str) (hsh : Int) (key v : Value) : ∀ es : List DictEntry,(putL name hsh key v es).length ≤ es.length + 1 ∧ (∀ u,getL name es = some (some u) → (putL name hsh key v es).length = es.length)
 | [] => ⟨Nat.le_refl _,λ u e => by rw [getL_nil] at e; cases e⟩
 | x :: es => by
   have ih := putL_len name hsh key v es
   rw [putL_cons]
   by_cases hx : x.key.isStr name = true
   · rw [if_pos hx]; exact ⟨by simp,λ _ _ => by simp⟩
   · rw [if_neg hx]
     refine ⟨by simp only [List.length_cons]; omega,λ u e => ?_⟩
     rw [getL_cons,if_neg hx] at e
     simp only [List.length_cons]
     by_cases hy : x.refKey = true
     · rw [if_pos hy] at e
       cases hz : getL name es with
       | none => rw [hz] at e; exact nn e
       | some q =>
         rw [hz] at e
         cases q with
         | none => exact nn e
         | some u' => rw [ih.2 u' hz]
     · rw [if_neg hy] at e
       rw [ih.2 u e]
theorem set_field (S : Stat K base) (c : Conc prog w base H s.heap) {x d : Addr} {C : Cl} {k : Nat} {F : At → Option AV} {a : At} {u : AV} {v : Value} {Q : Unit → Shared → Prop} (hx : H x = some (.inst C k d F)) (hf : isField C a = true) (hk : k ≤ 900)
   (r : vrel s.heap (foot H) u v)
   (h : ∀ h' tk,Conc prog w base (H.set x (.inst C (if (F a).isSome then k else k + 1) d (setF F a u))) h' → Step noX H s.heap (H.set x (.inst C (if (F a).isSome then k else k + 1) d (setF F a u))) h' → Q () { s with heap := h',toks := tk }) :
   wpAny (model prog w) A (setAttr (.ref x) (nm a) v) Q E s := by
 obtain ⟨es,m,I,hd,hl,hg⟩ := inst_at c hx
 obtain ⟨g1,g2,g3⟩ := S.ok.get C a hf
 obtain ⟨d1,d2,d3⟩ := S.ok.dict C
 obtain ⟨r0,e1,r1⟩ := hg a
 have pl := putL_len (nm a) (PyData.keyHash w.params (nm a)) (.str (nm a) (s.toks + 1)) v es
 refine set_plain (S.at c) I d2 (osa_open (s := { s with toks := s.toks + 1 }) (S.at c) I d3 g3 λ b => ?_)
 obtain ⟨cd,hc,hd'⟩ := any_some d1
 obtain ⟨hx',-,-,-⟩ := I
 refine wpAny_bind (wpAny_pure (wpAny_bind (wpAny_bind (wpAny_loadPart hx' (wpAny_bind (Looks.here (s := { s with toks := s.toks + 1 }) (looks_clsIn (S.at c) hc) ?_))))))
 rw [hd']
 refine wpAny_pure (a := some d) (wpAny_bind (wpAny_pure (wpAny_bind ?_)))
 unfold nsSet
 refine wpAny_bind (wpAny_bind (wpAny_askSetting (wpAny_pure (wpAny_bind (wpAny_mkText (wpAny_bind (wpAny_loadPart hd ?_)))))))
 have cc : (!es.toArray.any (·.key.isStr (nm a)) && es.toArray.any (·.refKey)) = false := by
   rw [← Array.any_toList,← Array.any_toList]
   refine (?_ : (!es.any (·.key.isStr (nm a)) && es.any (·.refKey)) = false)
   unfold getL at e1
   split at e1
   · rename_i en he
     rw [List.any_eq_true.mpr ⟨en,List.mem_of_find?_eq_some he,List.find?_some he⟩]; rfl
   · split at e1
     · exact nn e1
     · rename_i z; rw [Bool.not_eq_true] at z; rw [z,Bool.and_false]
 dsimp only [dictOf]
 rw [aRefKeyMayBeTheName_at,cc]
 have D' : (s.heap.update d (Obj.putName (nm a) (PyData.keyHash w.params (nm a)) (.str (nm a) (s.toks + 1)) v)).get? d = some (dictOf (putL (nm a) (PyData.keyHash w.params (nm a)) (.str (nm a) (s.toks + 1)) v es) (putN (nm a) es m)) := by
   rw [← putName_dict]
   exact Heap.get?_update_self _ hd (by rw [putName_dict]; rfl)
 refine wpAny_updatePart hd ?_
 refine wpAny_bind (wpAny_lookBehind D' (pastItsLine_dict (by rw [List.size_toArray,sizeLine_eq]; have := pl.1; omega)) ?_)
 have same : Heap.SameBut d s.heap (s.heap.update d (Obj.putName (nm a) (PyData.keyHash w.params (nm a)) (.str (nm a) (s.toks + 1)) v)) := Heap.SameBut.update ..
 have keep : ∀ b o,s.heap.get? b = some o → ¬ foot H b → _ := λ b o e n => (same.2 b λ z => n (z ▸ .inr ⟨x,C,k,F,hx⟩)).trans e
 have xd : x ≠ d := λ z => by have := c.apart x C k d F hx; rw [← z,hx] at this; exact sn this
 suffices rr : RObj prog w (s.heap.update d (Obj.putName (nm a) (PyData.keyHash w.params (nm a)) (.str (nm a) (s.toks + 1)) v)) (foot H) x (.inst C (if (F a).isSome then k else k + 1) d (setF F a u)) by
   obtain ⟨c',st⟩ := c.setInst (k' := if (F a).isSome then k else k + 1) (F' := setF F a u) hx same ⟨_,D'⟩ rr
   exact wpAny_pure (h _ _ c' st)
 refine ⟨(same.2 x xd).trans hx',_,_,D', ?_,λ t => ?_⟩
 · cases q : F a with
   | none => simp only [Option.isSome_none,Bool.false_eq_true,if_false]; have := pl.1; omega
   | some u' =>
     rw [q] at r1; obtain ⟨v',z,_⟩ := r1
     subst z
     simp only [Option.isSome_some,if_true]
     have := pl.2 _ e1; exact (ar (.i (.e N0 N1) (.i (.l N1 N2) (.l N0 N2))) 3 [_,_,_] []) this hl
 · obtain ⟨rt,et,ro⟩ := hg t
   refine ⟨_,getL_put _ _ _ _ _ _ _ et, ?_⟩
   unfold setF
   by_cases ta : t = a
   · subst ta; simp only [if_true]; exact ⟨v,rfl,vrel_mono (λ a o e n => ⟨keep a o e n,n⟩) r⟩
   · rw [if_neg ta,if_neg λ z => ta (nm_inj _ _ z)]; exact orel_mono (λ a o e n => ⟨keep a o e n,n⟩) ro
end

end P_S2

section P_S3
open PySem PySem.W PySem.Calls PyProof.Rows
open PySem.AutoSeq1 (wpAny_loadPart')
open PySem.MeetsSeq PySem.MeetsSeq2 PySem.MeetsSeq3 PySem.SeqAt

theorem tup_eq (l b : Addr) (items items2 : Array Value) (n n2 : Nat) (dd dd2 : Option Addr) (sl sl2 : Array (Option Value)) (e : Nat → Bool) :
   Meets (Builtin.«tuple.__eq__» ⟨[.ref l,.ref b],[]⟩)
     (λ A R s => s.heap.get? l = some { cls := .type "tuple",dict := dd,data := .seq items n,slots := sl } ∧ s.heap.get? b = some { cls := .type "tuple",dict := dd2,data := .seq items2 n2,slots := sl2 } ∧
       (∀ j (h1 : j < items.size) (h2 : j < items2.size),(∀ i,i < j → e i = true) → EqAt A.in1 s items[j] items2[j] (e j)) ∧
       R (.ok (.ret (.bool ((List.range (min items.size items2.size)).all e && items.size == items2.size)))) s) :=
 .of_wp λ prog w A R s h => by
   obtain ⟨hp,g,d,tk,os⟩ := s; obtain ⟨hl,hb,he,h⟩ := h
   have f2 := AutoSeq1.sub_tuple_tuple
   have hZ : (items.toList.zip items2.toList).length = min items.size items2.size := by simp
   wp_walk using wpAny_loadPart' hl,wpAny_loadPart' hb,wpAny_forIn_list _ (λ rest b s' => b.1 = none ∧ s' = ⟨hp,g,d,tk,os⟩ ∧ ∃ i,rest = (items.toList.zip items2.toList).drop i ∧ (∀ k,k < i → e k = true) ∧
     R (.ok (.ret (.bool (((List.range (min items.size items2.size)).drop i).all e && items.size == items2.size)))) ⟨hp,g,d,tk,os⟩) _
   case turn =>
     rintro ⟨y,x⟩ rest b s' ⟨hb',rfl,i,hz,hpre,hR⟩
     have hlt : i < (items.toList.zip items2.toList).length := by
       rcases Nat.lt_or_ge i (items.toList.zip items2.toList).length with h' | h'
       · exact h'
       · rw [List.drop_of_length_le h'] at hz; cases hz
     have hm : i < min items.size items2.size := hZ ▸ hlt
     have h1 : i < items.size := Nat.lt_of_lt_of_le hm (Nat.min_le_left _ _)
     have h2 : i < items2.size := Nat.lt_of_lt_of_le hm (Nat.min_le_right _ _)
     rw [List.drop_eq_getElem_cons hlt] at hz
     injection hz with hyx hrest
     have hy : y = items[i] := by have := congrArg Prod.fst hyx; simpa using this
     have hx : x = items2[i] := by have := congrArg Prod.snd hyx; simpa using this
     subst hy hx
     have hd : (List.range (min items.size items2.size)).drop i = i :: (List.range (min items.size items2.size)).drop (i + 1) := by simp [List.drop_eq_getElem_cons,hm]
     rw [hd,List.all_cons] at hR
     refine wpAny_bind (he i h1 h2 hpre prog w _ _ ?_)
     cases hy : e i with
     | true =>
       rw [hy] at hR
       wp_walk
       exact ⟨rfl,rfl,i + 1,hrest,λ k hk => (Nat.lt_succ_iff_lt_or_eq.mp hk).elim (hpre k) λ z => z ▸ hy,by simpa using hR⟩
     | false =>
       rw [hy] at hR
       wp_walk
       exact ⟨_,rfl,by simpa using hR⟩
   case fin =>
     rintro ⟨b1,b2⟩ s' ⟨hb',rfl,i,hz,hpre,hR⟩
     simp only at hb'
     subst hb'
     have hge : min items.size items2.size ≤ i := by
       rcases Nat.lt_or_ge i (items.toList.zip items2.toList).length with h' | h'
       · rw [List.drop_eq_getElem_cons h'] at hz; cases hz
       · exact hZ ▸ h'
     rw [List.drop_of_length_le (by simpa using hge)] at hR
     wp_walk
     exact ⟨_,rfl,by simpa [Builtin.Tuple.tupleCompareSizes] using hR⟩
   case h =>
     exact ⟨rfl,rfl,0,rfl,(λ _ hk => absurd hk (Nat.not_lt_zero _)),by simpa using h⟩
theorem tup_ne (l b : Addr) (items items2 : Array Value) (n n2 : Nat) (dd dd2 : Option Addr) (sl sl2 : Array (Option Value)) (e : Nat → Bool) :
   Meets (Builtin.«tuple.__ne__» ⟨[.ref l,.ref b],[]⟩)
     (λ A R s => s.heap.get? l = some { cls := .type "tuple",dict := dd,data := .seq items n,slots := sl } ∧ s.heap.get? b = some { cls := .type "tuple",dict := dd2,data := .seq items2 n2,slots := sl2 } ∧
       (∀ j (h1 : j < items.size) (h2 : j < items2.size),(∀ i,i < j → e i = true) → EqAt A.in1 s items[j] items2[j] (e j)) ∧
       R (.ok (.ret (.bool (!((List.range (min items.size items2.size)).all e && items.size == items2.size))))) s) :=
 .of_wp λ prog w A R s h => by
   obtain ⟨hp,g,d,tk,os⟩ := s; obtain ⟨hl,hb,he,h⟩ := h
   have f2 := AutoSeq1.sub_tuple_tuple
   have hZ : (items.toList.zip items2.toList).length = min items.size items2.size := by simp
   wp_walk using wpAny_loadPart' hl,wpAny_loadPart' hb,wpAny_forIn_list _ (λ rest b s' => b.1 = none ∧ s' = ⟨hp,g,d,tk,os⟩ ∧ ∃ i,rest = (items.toList.zip items2.toList).drop i ∧ (∀ k,k < i → e k = true) ∧
     R (.ok (.ret (.bool (!(((List.range (min items.size items2.size)).drop i).all e && items.size == items2.size))))) ⟨hp,g,d,tk,os⟩) _
   case turn =>
     rintro ⟨y,x⟩ rest b s' ⟨hb',rfl,i,hz,hpre,hR⟩
     have hlt : i < (items.toList.zip items2.toList).length := by
       rcases Nat.lt_or_ge i (items.toList.zip items2.toList).length with h' | h'
       · exact h'
       · rw [List.drop_of_length_le h'] at hz; cases hz
     have hm : i < min items.size items2.size := hZ ▸ hlt
     have h1 : i < items.size := Nat.lt_of_lt_of_le hm (Nat.min_le_left _ _)
     have h2 : i < items2.size := Nat.lt_of_lt_of_le hm (Nat.min_le_right _ _)
     rw [List.drop_eq_getElem_cons hlt] at hz
     injection hz with hyx hrest
     have hy : y = items[i] := by have := congrArg Prod.fst hyx; simpa using this
     have hx : x = items2[i] := by have := congrArg Prod.snd hyx; simpa using this
     subst hy hx
     have hd : (List.range (min items.size items2.size)).drop i = i :: (List.range (min items.size items2.size)).drop (i + 1) := by simp [List.drop_eq_getElem_cons,hm]
     rw [hd,List.all_cons] at hR
     refine wpAny_bind (he i h1 h2 hpre prog w _ _ ?_)
     cases hy : e i with
     | true =>
       rw [hy] at hR
       wp_walk
       exact ⟨rfl,rfl,i + 1,hrest,λ k hk => (Nat.lt_succ_iff_lt_or_eq.mp hk).elim (hpre k) λ z => z ▸ hy,by simpa using hR⟩
     | false =>
       rw [hy] at hR
       wp_walk
       exact ⟨_,rfl,by simpa using hR⟩
   case fin =>
     rintro ⟨b1,b2⟩ s' ⟨hb',rfl,i,hz,hpre,hR⟩
     simp only at hb'
     subst hb'
     have hge : min items.size items2.size ≤ i := by
       rcases Nat.lt_or_ge i (items.toList.zip items2.toList).length with h' | h'
       · rw [List.drop_eq_getElem_cons h'] at hz; cases hz
       · exact hZ ▸ h'
     rw [List.drop_of_length_le (by simpa using hge)] at hR
     wp_walk
     exact ⟨_,rfl,by simpa [Builtin.Tuple.tupleCompareSizes,bne] using hR⟩
   case h =>
     exact ⟨rfl,rfl,0,rfl,(λ _ hk => absurd hk (Nat.not_lt_zero _)),by simpa using h⟩
theorem rc_tuples {A : Around} {s : Shared} {l b : Addr} {items items2 : Array Value} {e : Nat → Bool} (hl : s.heap.IsTuple l items) (hb : s.heap.IsTuple b items2) (hu : A.units < cLine)
   (he : ∀ j (h1 : j < items.size) (h2 : j < items2.size),(∀ i,i < j → e i = true) → EqAt A.in1 s items[j] items2[j] (e j)) : RcAt A s (.ref l) (.ref b) ((List.range (min items.size items2.size)).all e && items.size == items2.size) := λ prog w E Q h => by
 obtain ⟨⟨cls,dd,data,sl⟩,ho,hc,n,hd⟩ := id hl
 obtain ⟨⟨cls2,dd2,data2,sl2⟩,ho2,hc2,n2,hd2⟩ := id hb
 simp only at hc hd hc2 hd2
 subst hc hd hc2 hd2
 exact richCompare_meets_room (op := .Eq) ⟨_,ho,rfl⟩ ⟨_,ho2,rfl⟩ F.slot_tuple_eq F.entry_tuple_eq (F.args_tuple_eq_2 _ _) (tup_eq l b items items2 n n2 dd dd2 sl sl2 e)
   ⟨ho,ho2,he,show Value.bool ((List.range (min items.size items2.size)).all e && items.size == items2.size) ≠ Value.notImplemented ∧ Q (.bool ((List.range (min items.size items2.size)).all e && items.size == items2.size)) s from ⟨(λ x => nomatch x),h⟩⟩ hu
theorem rcne_tuples {A : Around} {s : Shared} {l b : Addr} {items items2 : Array Value} {e : Nat → Bool} (hl : s.heap.IsTuple l items) (hb : s.heap.IsTuple b items2) (hu : A.units < cLine)
   (he : ∀ j (h1 : j < items.size) (h2 : j < items2.size),(∀ i,i < j → e i = true) → EqAt A.in1 s items[j] items2[j] (e j)) : RcNeAt A s (.ref l) (.ref b) (!((List.range (min items.size items2.size)).all e && items.size == items2.size)) := λ prog w E Q h => by
 obtain ⟨⟨cls,dd,data,sl⟩,ho,hc,n,hd⟩ := id hl
 obtain ⟨⟨cls2,dd2,data2,sl2⟩,ho2,hc2,n2,hd2⟩ := id hb
 simp only at hc hd hc2 hd2
 subst hc hd hc2 hd2
 exact richCompare_meets_room (op := .NotEq) ⟨_,ho,rfl⟩ ⟨_,ho2,rfl⟩ F.slot_tuple_ne F.entry_tuple_ne (F.args_tuple_ne_2 _ _) (tup_ne l b items items2 n n2 dd dd2 sl sl2 e)
   ⟨ho,ho2,he,show Value.bool (!((List.range (min items.size items2.size)).all e && items.size == items2.size)) ≠ Value.notImplemented ∧ Q (.bool (!((List.range (min items.size items2.size)).all e && items.size == items2.size))) s from ⟨(λ x => nomatch x),h⟩⟩ hu

end P_S3

section P_S4
open PySem PySem.W PySem.Calls PyProof.Rows PySem.SeqAt

theorem sy_inj : ∀ a b : Sy,a.str = b.str → a = b := by intro a b; cases a <;> cases b <;> first | (intro _; rfl) | (intro h; exact absurd h (by decide +kernel))
noncomputable def eAt (f : AV → AV → Option Bool) (xs ys : List AV) (j : Nat) : Bool := match xs[j]?,ys[j]? with
 | some x,some y => f x y == some true
 | _,_ => false
theorem eAt_succ (f : AV → AV → Option Bool) (x y : AV) (xs ys : List AV) : (eAt f (x :: xs) (y :: ys)) ∘ Nat.succ = eAt f xs ys := by
 funext j; simp [eAt]
theorem eAt_zero (f : AV → AV → Option Bool) (x y : AV) (xs ys : List AV) : eAt f (x :: xs) (y :: ys) 0 = (f x y == some true) := rfl
theorem all_range_succ (e : Nat → Bool) (n : Nat) : (List.range (n + 1)).all e = (e 0 && (List.range n).all (e ∘ Nat.succ)) := by
 rw [List.range_succ_eq_map,List.all_cons,List.all_map]
theorem eqvs_spec (f : AV → AV → Option Bool) : ∀ (xs ys : List AV) (r : Bool),eqvs f xs ys = some r →
   (∀ j x y,xs[j]? = some x → ys[j]? = some y → (∀ i,i < j → eAt f xs ys i = true) → f x y = some (eAt f xs ys j)) ∧ r = ((List.range (min xs.length ys.length)).all (eAt f xs ys) && xs.length == ys.length)
 | [],[],r,h => by cases h; exact ⟨λ j x y e => by simp at e,by simp⟩
 | [],_ :: _,r,h => by cases h; exact ⟨λ j x y e => by simp at e,by simp⟩
 | _ :: _,[],r,h => by cases h; exact ⟨λ j x y e e2 => by simp at e2,by simp⟩
 | x :: xs,y :: ys,r,h => by
   replace h : (match f x y with | some true => eqvs f xs ys | r => r) = some r := h
   have hm : min (x :: xs).length (y :: ys).length = min xs.length ys.length + 1 := by simp only [List.length_cons]; exact ar (.e (.i (.a N0 K1) (.a N1 K1)) (.a (.i N0 N1) K1)) 2 [_,_] []
   rw [hm,all_range_succ,eAt_succ,eAt_zero]
   cases q : f x y with
   | none => rw [q] at h; cases h
   | some b =>
     rw [q] at h
     cases b with
     | false =>
       cases h
       refine ⟨λ j u v e1 e2 p => ?_,by simp⟩
       cases j with
       | zero => cases e1; cases e2; rw [eAt_zero,q]; rfl
       | succ j => have := p 0 (Nat.succ_pos _); rw [eAt_zero,q] at this; cases this
     | true =>
       obtain ⟨h1,h2⟩ := eqvs_spec f xs ys r h
       refine ⟨λ j u v e1 e2 p => ?_,by rw [h2]; simp⟩
       cases j with
       | zero => cases e1; cases e2; rw [eAt_zero,q]; rfl
       | succ j =>
         have := h1 j u v (by simpa using e1) (by simpa using e2) (λ i hi => by have := p (i + 1) (by exact (ar (.i (.t N0 N1) (.t (.a N0 K1) (.a N1 K1))) 2 [_,_] []) hi); rw [← eAt_succ f x y]; exact this)
         rw [this,← eAt_succ f x y]; rfl
theorem eqvl_spec (f : AV → AV → Option Bool) : ∀ (xs ys : List AV) (r : Bool),xs.length = ys.length → eqvl f xs ys = some r →
   (∀ j x y,xs[j]? = some x → ys[j]? = some y → f x y = some (eAt f xs ys j)) ∧ r = (List.range xs.length).all (eAt f xs ys)
 | [],[],r,_,h => by cases h; exact ⟨λ j x y e => by simp at e,by simp⟩
 | [],_ :: _,r,hl,h => by simp at hl
 | _ :: _,[],r,hl,h => by simp at hl
 | x :: xs,y :: ys,r,hl,h => by
   replace h : andO (f x y) (eqvl f xs ys) = some r := h
   rw [List.length_cons,all_range_succ,eAt_succ,eAt_zero]
   cases q : f x y with
   | none => rw [q] at h; cases h
   | some b =>
     rw [q] at h
     cases q2 : eqvl f xs ys with
     | none => rw [q2] at h; cases h
     | some r' =>
       rw [q2] at h
       cases h
       obtain ⟨h1,h2⟩ := eqvl_spec f xs ys r' (by simpa using hl) q2
       refine ⟨λ j u v e1 e2 => ?_,by rw [h2]; cases b <;> simp⟩
       cases j with
       | zero => cases e1; cases e2; rw [eAt_zero,q]; cases b <;> rfl
       | succ j =>
         have := h1 j u v (by simpa using e1) (by simpa using e2)
         rw [this,← eAt_succ f x y]; rfl
theorem istup_inj {h : Heap} {a : Addr} {vs us : List Value} (p : h.IsTuple a vs.toArray) (q : h.IsTuple a us.toArray) : vs = us := by
 obtain ⟨o,e1,_,n,e2⟩ := p
 obtain ⟨o',e1',_,n',e2'⟩ := q
 rw [e1] at e1'; cases e1'
 rw [e2] at e2'
 injection e2' with z _
 exact List.toArray_inj z
mutual
theorem eqv_self {H : AHeap} {h : Heap} {P : Addr → Prop} : ∀ (n : Nat) {a b : AV} {r : Bool} {v : Value},eqv H n a b = some r → vrel h P a v → vrel h P b v → r = true
 | 0,_,_,_,_,e,_,_ => by cases e
 | n + 1,a,b,r,v,e,p,q => by
   cases a <;> cases b <;> first | exact nn e | exact ft e | (cases e; done) | skip
   case none.none => cases e; rfl
   case none.int => obtain ⟨t,q⟩ := q; cases p; cases q
   case int.none => obtain ⟨t,p⟩ := p; cases p; cases q
   case bool.bool => cases p; cases q; cases e; simp
   case int.int => obtain ⟨t,p⟩ := p; obtain ⟨u,q⟩ := q; subst p; cases q; cases e; simp
   case str.str i j =>
     obtain ⟨t,p⟩ := p; obtain ⟨u,q⟩ := q; subst p
     injection q with z _
     cases e; simp [sy_inj _ _ z]
   case ref.ref => cases p; cases q; exact (Option.some.inj ((if_pos rfl).symm.trans e)).symm
   case tup.tup xs ys =>
     obtain ⟨a,vs,e1,_,i1,r1⟩ := p
     obtain ⟨a',us,e2,_,i2,r2⟩ := q
     subst e1; cases e2
     obtain rfl := istup_inj i1 i2
     exact eqvs_self n e r1 r2
theorem eqvs_self {H : AHeap} {h : Heap} {P : Addr → Prop} (n : Nat) : ∀ {xs ys : List AV} {r : Bool} {vs : List Value},eqvs (eqv H n) xs ys = some r → vrels h P xs vs → vrels h P ys vs → r = true
 | [],[],_,_,e,_,_ => by cases e; rfl
 | [],_ :: _,_,_,_,p,⟨_,_,q,_⟩ => by cases p; cases q
 | _ :: _,[],_,_,_,⟨_,_,p,_⟩,q => by cases q; cases p
 | x :: xs,y :: ys,r,vs,e,⟨v,u,e1,p1,p2⟩,⟨v',u',e2,q1,q2⟩ => by
   subst e1; cases e2
   replace e : (match eqv H n x y with | some true => eqvs (eqv H n) xs ys | r => r) = some r := e
   cases z : eqv H n x y with
   | none => rw [z] at e; cases e
   | some b =>
     rw [z] at e
     obtain rfl := eqv_self n z p1 q1
     exact eqvs_self n e p2 q2
end
section
variable {prog : Program} {w : World} {base : Heap} {A : Around} {E : Value → Shared → Prop} {s : Shared} {H : AHeap}
theorem in1_lt {n : Nat} (h : A.units + (n + 1) < cLine) : A.in1.units + n < cLine := by refine (?_ : A.units + 1 + n < cLine); exact (ar (.i (.t (.a N0 (.a N1 K1)) N2) (.t (.a (.a N0 K1) N1) N2)) 3 [_,_,_] []) h
theorem vget {h : Heap} {P : Addr → Prop} {xs : List AV} {vs : List Value} (r : vrels h P xs vs) (j : Nat) (hj : j < vs.length) : ∃ x,xs[j]? = some x ∧ vrel h P x vs[j] := by
 have hl := vrels_length r
 have hj' : j < xs.length := by exact (ar (.i (.e N0 N1) (.i (.t N2 N0) (.t N2 N1))) 3 [_,_,_] []) hl hj
 obtain ⟨v,e,q⟩ := vrels_get r (List.getElem?_eq_getElem hj')
 rw [List.getElem?_eq_getElem hj] at e
 cases e
 exact ⟨_,List.getElem?_eq_getElem hj',q⟩
theorem eqv_ok (c : Conc prog w base H s.heap) : ∀ (n : Nat) {A : Around} {a b : AV} {r : Bool} {x y : Value},eqv H n a b = some r → vrel s.heap (foot H) a x → vrel s.heap (foot H) b y → A.units + n < cLine →
   EqAt A s x y r ∧ ((∀ z,a = .ref z → b ≠ .ref z) → RcAt A s x y r ∧ RcNeAt A s x y (!r))
 | 0,_,_,_,_,_,_,e,_,_,_ => by cases e
 | n + 1,A,a,b,r,x,y,e,p,q,hu => by
   cases a <;> cases b <;> first | exact nn e | exact ft e | (cases e; done) | skip
   case none.none => cases p; cases q; cases e; exact ⟨.same _,λ _ => ⟨RcAt.none_none,RcNeAt.none_none⟩⟩
   case none.int => cases p; obtain ⟨t,rfl⟩ := q; cases e; exact ⟨EqAt.none_int _ _,λ _ => ⟨RcAt.none_int _ _,RcNeAt.none_int _ _⟩⟩
   case int.none => obtain ⟨t,rfl⟩ := p; cases q; cases e; exact ⟨EqAt.int_none _ _,λ _ => ⟨RcAt.int_none _ _,RcNeAt.int_none _ _⟩⟩
   case bool.bool => cases p; cases q; cases e; exact ⟨EqAt.bool_bool _ _,λ _ => ⟨RcAt.bool_bool _ _,RcNeAt.bool_bool _ _⟩⟩
   case int.int => obtain ⟨t,rfl⟩ := p; obtain ⟨u,rfl⟩ := q; cases e; exact ⟨EqAt.int_int _ _ _ _,λ _ => ⟨RcAt.int_int _ _ _ _,RcNeAt.int_int _ _ _ _⟩⟩
   case str.str i j =>
     obtain ⟨t,rfl⟩ := p; obtain ⟨u,rfl⟩ := q
     cases e
     have z : decide (i = j) = (i.str == j.str) := by
       by_cases h : i = j
       · subst h; simp
       · have : ¬ i.str = j.str := λ z => h (sy_inj _ _ z)
         simp [h,this]
     rw [z]
     exact ⟨EqAt.str_str _ _ _ _,λ _ => ⟨RcAt.str_str _ _ _ _,RcNeAt.str_str _ _ _ _⟩⟩
   case tup.tup xs ys =>
     obtain ⟨a,vs,rfl,_,i1,r1⟩ := id p
     obtain ⟨b,us,rfl,_,i2,r2⟩ := id q
     obtain ⟨h1,h2⟩ := eqvs_spec _ xs ys r e
     have l1 := vrels_length r1
     have l2 := vrels_length r2
     have he : ∀ (A' : Around),A'.units + n < cLine → ∀ j (h1 : j < vs.toArray.size) (h2 : j < us.toArray.size),(∀ i,i < j → eAt (eqv H n) xs ys i = true) → EqAt A' s vs.toArray[j] us.toArray[j] (eAt (eqv H n) xs ys j) := λ A' hA j k1 k2 pre => by
       obtain ⟨u,e1,p1⟩ := vget r1 j (by simpa using k1)
       obtain ⟨v,e2,p2⟩ := vget r2 j (by simpa using k2)
       have := (eqv_ok c n (A := A') (h1 j u v e1 e2 pre) p1 p2 hA).1
       simpa using this
     have hr : r = ((List.range (min vs.toArray.size us.toArray.size)).all (eAt (eqv H n) xs ys) && vs.toArray.size == us.toArray.size) := by
       rw [h2,List.size_toArray,List.size_toArray,l1,l2]
     have R1 := rc_tuples (A := A) i1 i2 (by exact (ar (.i (.t (.a N0 (.a N1 K1)) N2) (.t N0 N2)) 3 [_,_,_] []) hu) (he A.in1 (in1_lt hu))
     have R2 := rcne_tuples (A := A) i1 i2 (by exact (ar (.i (.t (.a N0 (.a N1 K1)) N2) (.t N0 N2)) 3 [_,_,_] []) hu) (he A.in1 (in1_lt hu))
     rw [← hr] at R1 R2
     refine ⟨?_,λ _ => ⟨R1,R2⟩⟩
     by_cases hab : a = b
     · subst hab
       obtain rfl := eqv_self (n + 1) e p q
       exact EqAt.same _
     · exact EqAt.of_refs hab R1
   case ref.ref x y =>
     cases p; cases q
     replace e : (if x = y then some true else (match H x,H y with
       | some (.list xs),some (.list ys) => if xs.length = ys.length then eqvl (eqv H n) xs ys else some false
       | _,_ => none)) = some r := e
     by_cases hxy : x = y
     · rw [if_pos hxy] at e; cases e; subst hxy
       exact ⟨EqAt.same _,λ z => absurd rfl (z x rfl)⟩
     · rw [if_neg hxy] at e
       cases hx : H x with
       | none => rw [hx] at e; cases e
       | some ox =>
         cases hy : H y with
         | none => rw [hx,hy] at e; cases ox <;> cases e
         | some oy =>
           rw [hx,hy] at e
           cases ox <;> cases oy <;> first | exact nn e | exact ft e | (cases e; done) | skip
           rename_i xs ys
           obtain ⟨vs,j1,r1⟩ := c.obj x _ hx
           obtain ⟨us,j2,r2⟩ := c.obj y _ hy
           have i1 := j1.isList
           have i2 := j2.isList
           have l1 := vrels_length r1
           have l2 := vrels_length r2
           by_cases hl : xs.length = ys.length
           · simp only [if_pos hl] at e
             obtain ⟨h1,h2⟩ := eqvl_spec _ xs ys r hl e
             have he : ∀ (A' : Around),A'.units + n < cLine → ∀ j (h1 : j < vs.toArray.size) (h2 : j < us.toArray.size),EqAt A' s vs.toArray[j] us.toArray[j] (eAt (eqv H n) xs ys j) := λ A' hA j k1 k2 => by
               obtain ⟨u,e1,p1⟩ := vget r1 j (by simpa using k1)
               obtain ⟨v,e2,p2⟩ := vget r2 j (by simpa using k2)
               have := (eqv_ok c n (A := A') (h1 j u v e1 e2) p1 p2 hA).1
               simpa using this
             have hr : r = (List.range vs.toArray.size).all (eAt (eqv H n) xs ys) := by rw [h2,List.size_toArray,l1]
             have R1 := RcAt.lists (A := A) i1 i2 (by simp [l1,l2,hl]) (by exact (ar (.i (.t (.a N0 (.a N1 K1)) N2) (.t N0 N2)) 3 [_,_,_] []) hu) (he A.in1 (in1_lt hu))
             have R2 := RcNeAt.lists (A := A) i1 i2 (by simp [l1,l2,hl]) (by exact (ar (.i (.t (.a N0 (.a N1 K1)) N2) (.t N0 N2)) 3 [_,_,_] []) hu) (he A.in1 (in1_lt hu))
             rw [← hr] at R1 R2
             exact ⟨EqAt.of_refs hxy R1,λ _ => ⟨R1,R2⟩⟩
           · simp only [if_neg hl] at e
             cases e
             have hs : (vs.toArray.size != us.toArray.size) = true := by simp [l1,l2,hl]
             have R1 := RcAt.lists_lengths (A := A) i1 i2 hs (by exact (ar (.i (.t (.a N0 (.a N1 K1)) N2) (.t N0 N2)) 3 [_,_,_] []) hu)
             exact ⟨EqAt.of_refs hxy R1,λ _ => ⟨R1,RcNeAt.lists_lengths (A := A) i1 i2 hs (by exact (ar (.i (.t (.a N0 (.a N1 K1)) N2) (.t N0 N2)) 3 [_,_,_] []) hu)⟩⟩
theorem eqTop_ok (c : Conc prog w base H s.heap) {a b : AV} {r : Bool} {x y : Value} (e : eqTop H a b = some r) (p : vrel s.heap (foot H) a x) (q : vrel s.heap (foot H) b y) (hu : A.units + 5 < cLine) :
   RcAt A s x y r ∧ RcNeAt A s x y (!r) := by
 have key : (∀ z,a = .ref z → b ≠ .ref z) → eqv H 5 a b = some r → RcAt A s x y r ∧ RcNeAt A s x y (!r) := λ n e => (eqv_ok c 5 e p q hu).2 n
 cases a
 case ref u =>
   cases b
   case ref v =>
     replace e : (if u = v then none else eqv H 5 (.ref u) (.ref v)) = some r := e
     by_cases n : u = v
     · rw [if_pos n] at e; cases e
     · rw [if_neg n] at e
       exact key (λ z h1 h2 => by cases h1; cases h2; exact n rfl) e
   all_goals exact key (λ z _ h => by cases h) e
 all_goals exact key (λ z h => by cases h) e
end

end P_S4

section P_S5
open PySem PySem.W PySem.Calls PyProof.Rows PySem.SeqAt

section
variable {prog : Program} {w : World} {base : Heap} {A : Around} {E : Value → Shared → Prop} {s : Shared} {H : AHeap} {Q : AV → AHeap → Prop}
theorem new_list (c : Conc prog w base H s.heap) {h' : Heap} {a : Addr} {xs : List AV} {vs : List Value} {tk : Nat} (n : s.heap.get? a = none) (k : ∀ b o,s.heap.get? b = some o → h'.get? b = some o) (l : h'.PlainList a vs.toArray)
   (r : vrels s.heap (foot H) xs vs) (h : fresh H (.list xs) Q) : EP prog w vrel base s H Q (.ref a) { s with heap := h',toks := tk } := by
 obtain ⟨n1,n2⟩ := c.none_of n
 have mono : ∀ b o,s.heap.get? b = some o → ¬ foot H b → h'.get? b = some o ∧ ¬ foot (H.set a (.list xs)) b := λ b o e m => ⟨k b o e,λ f => ((foot_new n1 rfl b).mp f).elim m λ z => by subst z; rw [n] at e; exact nn e⟩
 obtain ⟨c',st⟩ := c.newPlain n (o := .list xs) rfl k ⟨vs,l,vrels_mono mono r⟩
 exact EP.at c' st vrel_ref (h a n1)
theorem new_dict (c : Conc prog w base H s.heap) {h' : Heap} {a : Addr} {tk : Nat} (n : s.heap.get? a = none) (k : ∀ b o,s.heap.get? b = some o → h'.get? b = some o) (l : h'.DictOf (intKind prog w) a [])
   (h : fresh H (.idict []) Q) : EP prog w vrel base s H Q (.ref a) { s with heap := h',toks := tk } := by
 obtain ⟨n1,n2⟩ := c.none_of n
 obtain ⟨c',st⟩ := c.newPlain n (o := .idict []) rfl k ⟨[],l,rfl⟩
 exact EP.at c' st vrel_ref (h a n1)
theorem new_tuple (c : Conc prog w base H s.heap) {h' : Heap} {a : Addr} {xs : List AV} {vs : List Value} {tk : Nat} (n : s.heap.get? a = none) (k : ∀ b o,s.heap.get? b = some o → h'.get? b = some o) (l : h'.IsTuple a vs.toArray)
   (r : vrels s.heap (foot H) xs vs) (h : Q (.tup xs) H) : EP prog w vrel base s H Q (.ref a) { s with heap := h',toks := tk } :=
 EP.grown c k (vrel_tup (c.none_of n).2 l (vrels_mono (λ b o e m => ⟨k b o e,m⟩) r)) h
theorem none_size (h : Heap) : h.get? h.objs.size = none := by unfold Heap.get?; simp
theorem push_keep {h : Heap} (o : Obj) : ∀ b q,h.get? b = some q → (h.push o).get? b = some q := λ _ _ e => Heap.get?_push_of_some _ e
theorem push_list {h : Heap} {vs : List Value} {n : Nat} : (h.push { cls := .type "list",data := .seq vs.toArray n }).PlainList h.objs.size vs.toArray := ⟨n,Heap.get?_push_size _ rfl⟩
theorem pushed_list (c : Conc prog w base H s.heap) {xs : List AV} {vs : List Value} {tk n : Nat} (r : vrels s.heap (foot H) xs vs) (h : fresh H (.list xs) Q) :
   EP prog w vrel base s H Q (.ref s.heap.objs.size) { s with heap := s.heap.push { cls := .type "list",data := .seq vs.toArray n },toks := tk } :=
 new_list c (none_size _) (push_keep _) push_list r h
theorem small_bits {k : Int} (h : k.natAbs < 2 ^ 64) : Builtin.Int.intBits k ≤ 64 := intBits_le_64 (by omega) (by omega)
theorem with_int {a : AV} {P : Int → Prop} (h : match a with | .int i => P i | _ => False) : ∃ i,a = .int i ∧ P i := by
 cases a <;> first | exact h.elim | exact ⟨_,rfl,h⟩
theorem with_ints {a b : AV} {P : Int → Int → Prop} (h : match a,b with | .int i,.int j => P i j | _,_ => False) : ∃ i j,a = .int i ∧ b = .int j ∧ P i j := by
 cases a <;> cases b <;> first | exact h.elim | exact ⟨_,_,rfl,rfl,h⟩
theorem add_inv {H : AHeap} {a b : AV} {Q : AV → AHeap → Prop} (h : binv H .add a b Q) : (∃ x y,a = .int x ∧ b = .int y ∧ Q (.int (x + y)) H) ∨
   ∃ l m xs ys,a = .ref l ∧ b = .ref m ∧ H l = some (.list xs) ∧ H m = some (.list ys) ∧ xs.length + ys.length ≤ lim ∧ fresh H (.list (xs ++ ys)) Q := by
 cases a <;> first | exact h.elim | skip
 case int x => cases b <;> first | exact h.elim | exact .inl ⟨_,_,rfl,rfl,h⟩
 case ref l =>
   cases b <;> first | exact h.elim | skip
   rename_i m
   replace h : (match H l,H m with | some (.list xs),some (.list ys) => xs.length + ys.length ≤ lim ∧ fresh H (.list (xs ++ ys)) Q | _,_ => False) := h
   cases hx : H l with
   | none => rw [hx] at h; exact h.elim
   | some ox =>
     rw [hx] at h
     cases ox <;> first | exact h.elim | skip
     cases hy : H m with
     | none => rw [hy] at h; exact h.elim
     | some oy =>
       rw [hy] at h
       cases oy <;> first | exact h.elim | exact .inr ⟨l,m,_,_,rfl,rfl,hx,hy,h⟩
theorem mul_inv {H : AHeap} {a b : AV} {Q : AV → AHeap → Prop} (h : binv H .mul a b Q) : (∃ x y,a = .int x ∧ b = .int y ∧ x.natAbs < 2 ^ 64 ∧ y.natAbs < 2 ^ 64 ∧ Q (.int (x * y)) H) ∨
   ∃ l x v,a = .ref l ∧ b = .int x ∧ H l = some (.list [v]) ∧ 0 ≤ x ∧ x ≤ lim ∧ fresh H (.list (List.replicate x.toNat v)) Q := by
 cases a <;> first | exact h.elim | skip
 case int x => cases b <;> first | exact h.elim | exact .inl ⟨_,_,rfl,rfl,h⟩
 case ref l =>
   cases b <;> first | exact h.elim | skip
   rename_i x
   replace h : (match H l with | some (.list [v]) => 0 ≤ x ∧ x ≤ lim ∧ fresh H (.list (List.replicate x.toNat v)) Q | _ => False) := h
   cases hx : H l with
   | none => rw [hx] at h; exact h.elim
   | some ox =>
     rw [hx] at h
     cases ox <;> first | exact h.elim | skip
     rename_i xs
     rcases xs with _ | ⟨v,_ | ⟨_,_⟩⟩ <;> first | exact h.elim | exact .inr ⟨l,x,v,rfl,rfl,hx,h⟩
theorem sub_inv {H : AHeap} {a b : AV} {Q : AV → AHeap → Prop} (h : binv H .sub a b Q) : ∃ x y,a = .int x ∧ b = .int y ∧ Q (.int (x - y)) H := by
 cases a <;> first | exact h.elim | skip
 cases b <;> first | exact h.elim | exact ⟨_,_,rfl,rfl,h⟩
theorem fdiv_inv {H : AHeap} {a b : AV} {Q : AV → AHeap → Prop} (h : binv H .fdiv a b Q) : ∃ x y,a = .int x ∧ b = .int y ∧ 0 < y ∧ y < 1073741824 ∧ Q (.int (x.fdiv y)) H := by
 cases a <;> first | exact h.elim | skip
 cases b <;> first | exact h.elim | exact ⟨_,_,rfl,rfl,h⟩
theorem mod_inv {H : AHeap} {a b : AV} {Q : AV → AHeap → Prop} (h : binv H .mod a b Q) : ∃ x y,a = .int x ∧ b = .int y ∧ 0 < y ∧ Q (.int (x.fmod y)) H := by
 cases a <;> first | exact h.elim | skip
 cases b <;> first | exact h.elim | exact ⟨_,_,rfl,rfl,h⟩
theorem pow_inv {H : AHeap} {a b : AV} {Q : AV → AHeap → Prop} (h : binv H .pow a b Q) : ∃ x y,a = .int x ∧ b = .int y ∧ x = 10 ∧ y = 18 ∧ Q (.int (10 ^ 18)) H := by
 cases a <;> first | exact h.elim | skip
 cases b <;> first | exact h.elim | exact ⟨_,_,rfl,rfl,h⟩
theorem cmp_inv {f : Int → Int → Bool} {a b : AV} {r : Bool} (h : (match a,b with | .int x,.int y => some (f x y) | _,_ => none) = some r) : ∃ i j,a = .int i ∧ b = .int j ∧ f i j = r := by
 cases a <;> first | exact nn h | exact ft h | (cases h; done) | skip
 cases b <;> first | exact nn h | exact ft h | (cases h; done) | exact ⟨_,_,rfl,rfl,Option.some.inj h⟩
theorem bin_ok (c : Conc prog w base H s.heap) {op : Operator} {o : Bop} {a b : AV} {x y : Value} (ho : cBop op = some o) (h : binv H o a b Q) (p : vrel s.heap (foot H) a x) (q : vrel s.heap (foot H) b y) :
   wpAny (model prog w) A (binaryOp op x y) (EP prog w vrel base s H Q) E s := by
 cases op <;> cases ho
 case Add.refl =>
   rcases add_inv h with ⟨i,j,rfl,rfl,h⟩ | ⟨l,m,xs,ys,rfl,rfl,hx,hy,h1,h2⟩
   · obtain ⟨t,rfl⟩ := p; obtain ⟨u,rfl⟩ := q; exact P.add_int (EP.toks c vrel_int h)
   · cases p; cases q
     focus
       focus
       obtain ⟨vs,⟨n1,l1⟩,r1⟩ := c.obj l _ hx
       obtain ⟨us,⟨n2,l2⟩,r2⟩ := c.obj m _ hy
       have z1 := vrels_length r1
       have z2 := vrels_length r2
       have e : vs.toArray ++ us.toArray = (vs ++ us).toArray := by simp
       refine concat_meets ⟨_,l1,rfl⟩ ⟨_,l2,rfl⟩ noFill_list_add seq_list_add PySem.F.slot_list_add PySem.F.entry_list_add (PySem.F.args_list_add_2 _ _)
         (list_addW l m vs.toArray us.toArray n1 n2 none none #[] #[] (by rw [sizeLine_eq]; simp only [List.size_toArray]; unfold lim at h1; exact (ar (.i (.e N0 N1) (.i (.e N2 N3) (.i (.l (.a N3 N1) KM) (.l (.a N2 N0) (.k 16777216))))) 4 [_,_,_,_] []) z2 z1 h1)) ⟨l1,l2, ?_⟩
       rw [e]
       exact pushed_list c (vrels_append r1 r2) h2
 case Sub.refl => obtain ⟨i,j,rfl,rfl,h⟩ := sub_inv h; obtain ⟨t,rfl⟩ := p; obtain ⟨u,rfl⟩ := q; exact P.sub_int (EP.toks c vrel_int h)
 case Mult.refl =>
   rcases mul_inv h with ⟨i,j,rfl,rfl,h⟩ | ⟨l,x,v,rfl,rfl,hx,h1,h2,h3⟩
   · obtain ⟨t,rfl⟩ := p; obtain ⟨u,rfl⟩ := q
     exact P.mul_int (EP.toks c vrel_int h.2.2) (hm := .of_left (small_bits h.1))
   · cases p; obtain ⟨u,rfl⟩ := q
     obtain ⟨vs,⟨k,ho⟩,v',r,e,r1,r2⟩ := c.obj l _ hx
     subst e; cases r2
     unfold lim at h2
     have hsz : [v'].toArray.size * x.toNat ≤ 1000000 := by simp; exact (ar (.i (.L Z0 (.u KM)) (.L Z0 KM)) 1 [] [_]) h2
     have e1 : (List.foldl (λ x1 x2 => x1 ++ x2) #[] (List.replicate (if ([v'].toArray : Array Value).isEmpty = true then 0 else x.toNat) [v'].toArray)) = (List.replicate x.toNat v').toArray := by
       rw [if_neg (by simp)]
       generalize x.toNat = n
       clear hsz h3
       have : ∀ (n : Nat) (a : List Value),List.foldl (λ x1 x2 => x1 ++ x2) a.toArray (List.replicate n [v'].toArray) = (a ++ List.replicate n v').toArray := by
         intro n
         induction n with
         | zero => intro a; simp
         | succ n ih => intro a; rw [List.replicate_succ,List.foldl_cons]; simp only [List.append_toArray]; rw [ih,List.replicate_succ]; simp
       simpa using this n []
     refine wpAny_binaryOp_repeat_ref (T := "list") (U := "int") (by decide) ⟨_,ho,rfl⟩ (λ s' => typeIs_int s' x u) noFill_list_mul F.fills_int_mul F.slot_int_rmul repeat_list F.slot_int_index.lookup
       (call_meets F.slot_int_rmul (typeIs_int s x u) F.entry_int_rmul (F.args_int_rmul_2 _ _) (lm_int_rmul_list_any x u l [v'].toArray k none #[])
         ⟨ho,rfl,⟨_,ho,rfl⟩,call_meets F.slot_list_mul ⟨_,ho,rfl⟩ F.entry_list_mul (F.args_list_mul_2 _ _)
           (lm_list_mul_any l [v'].toArray k none #[] x u (by simp [Builtin.List.listFitsIndex]; exact (ar (.i (.L K0 Z0) (.i (.L Z0 (.u KM)) (.a (.L (.g (.k 9223372036854775808)) Z0) (.T Z0 (.k 9223372036854775808))))) 1 [] [_]) h1 h2) (by omega) (by simp [Builtin.List.listTooLong,sizeLine]; exact (ar (.i (.L Z0 (.u KM)) (.L Z0 (.k 16777216))) 1 [] [_]) h2))
           ⟨ho, ?_⟩⟩)
     rw [e1]
     exact pushed_list c (vrels_replicate r1 _) h3
 case FloorDiv.refl =>
   obtain ⟨x,y,rfl,rfl,h⟩ := fdiv_inv h
   obtain ⟨t,rfl⟩ := p; obtain ⟨u,rfl⟩ := q
   obtain ⟨h1,h2,h3⟩ := h
   refine AutoIntOps.floordiv_1 (by simp; exact (ar (.i (.T K0 Z0) (.i (.E Z0 K0) .f)) 1 [] [_]) h1) (by rw [PyProof.noPylong_small (by omega)]; decide) ?_
   exact EP.toks c vrel_int h3
 case Mod.refl =>
   obtain ⟨x,y,rfl,rfl,h⟩ := mod_inv h
   obtain ⟨t,rfl⟩ := p; obtain ⟨u,rfl⟩ := q
   obtain ⟨h1,h3⟩ := h
   exact mod_int' (by exact (ar (.i (.T K0 Z0) (.i (.E Z0 K0) .f)) 1 [] [_]) h1) (EP.toks c vrel_int h3)
 case Pow.refl =>
   obtain ⟨x,y,rfl,rfl,h⟩ := pow_inv h
   obtain ⟨t,rfl⟩ := p; obtain ⟨u,rfl⟩ := q
   obtain ⟨rfl,rfl,h3⟩ := h
   refine AutoIntOps.pow_4 (by decide) (by decide) (by decide) (by decide) (by decide +kernel) ?_
   exact EP.toks c vrel_int h3
theorem neg_ok (c : Conc prog w base H s.heap) {i : Int} {x : Value} (h : Q (.int (-i)) H) (p : vrel s.heap (foot H) (.int i) x) : wpAny (model prog w) A (unaryOp .USub x) (EP prog w vrel base s H Q) E s := by
 obtain ⟨t,rfl⟩ := p
 exact P.neg_int (EP.toks c vrel_int h)
theorem keyOf_rel {h : Heap} {P : Addr → Prop} (k : Int) : ∀ {es : List (Int × AV)} {kvs : List (Int × Value)},drel h P es kvs → orel h P (keyOf es k) (valueAt kvs k)
 | [],_,r => by cases r; rfl
 | (j,x) :: es,_,⟨v,r,e,a,b⟩ => by
   subst e
   have ih := keyOf_rel (P := P) k b
   unfold keyOf valueAt at *
   rw [List.lookup_cons,List.find?_cons]
   by_cases h : j = k
   · subst h; simp only [beq_self_eq_true,decide_true]; exact ⟨v,rfl,a⟩
   · have h' : (k == j) = false := by simpa using λ z => h z.symm
     simp only [h',h,decide_false]; exact ih
theorem drel_keys {h : Heap} {P : Addr → Prop} : ∀ {es : List (Int × AV)} {kvs : List (Int × Value)},drel h P es kvs → kvs.map (·.1) = es.map (·.1)
 | [],_,r => by cases r; rfl
 | (j,x) :: es,_,⟨v,r,e,a,b⟩ => by subst e; simp only [List.map_cons,drel_keys b]
theorem drel_len {h : Heap} {P : Addr → Prop} {es : List (Int × AV)} {kvs : List (Int × Value)} (r : drel h P es kvs) : kvs.length = es.length := by
 have := congrArg List.length (drel_keys r); simpa using this
theorem drel_any {h : Heap} {P : Addr → Prop} (k : Int) {es : List (Int × AV)} {kvs : List (Int × Value)} (r : drel h P es kvs) : kvs.any (λ p => p.1 = k) = es.any (λ p => p.1 = k) := by
 have e1 : kvs.any (λ p => p.1 = k) = (kvs.map (·.1)).any (λ j => j = k) := by rw [List.any_map]; rfl
 have e2 : es.any (λ p => p.1 = k) = (es.map (·.1)).any (λ j => j = k) := by rw [List.any_map]; rfl
 rw [e1,e2,drel_keys r]
theorem drel_map {h : Heap} {P : Addr → Prop} (k : Int) {u : AV} {v : Value} (q : vrel h P u v) : ∀ {es : List (Int × AV)} {kvs : List (Int × Value)},drel h P es kvs → drel h P (es.map (λ p => if p.1 = k then (p.1,u) else p)) (kvs.map (λ p => if p.1 = k then (p.1,v) else p))
 | [],_,r => by cases r; rfl
 | (j,x) :: es,_,⟨v',r,e,a,b⟩ => by
   subst e
   simp only [List.map_cons]
   by_cases h : j = k
   · simp only [h,if_true]; exact ⟨v,_,rfl,q,drel_map k q b⟩
   · simp only [h,if_false]; exact ⟨v',_,rfl,a,drel_map k q b⟩
theorem drel_snoc {h : Heap} {P : Addr → Prop} (k : Int) {u : AV} {v : Value} (q : vrel h P u v) : ∀ {es : List (Int × AV)} {kvs : List (Int × Value)},drel h P es kvs → drel h P (es ++ [(k,u)]) (kvs ++ [(k,v)])
 | [],_,r => by cases r; exact ⟨v,[],rfl,q,rfl⟩
 | (j,x) :: es,_,⟨v',r,e,a,b⟩ => by subst e; exact ⟨v',_,rfl,a,drel_snoc k q b⟩
theorem drel_put {h : Heap} {P : Addr → Prop} (k : Int) {u : AV} {v : Value} (q : vrel h P u v) {es : List (Int × AV)} {kvs : List (Int × Value)} (r : drel h P es kvs) : drel h P (putKey es k u) (stored kvs k v) := by
 unfold putKey stored
 rw [drel_any k r]
 split
 · exact drel_map k q r
 · exact drel_snoc k q r
theorem not_mods {K : Frag} (S : Stat K base) (c : Conc prog w base H s.heap) {d : Addr} {es : List (Int × AV)} (hd : H d = some (.idict es)) : (d == sysModules) = false := by
 rw [beq_eq_false_iff_ne]
 intro z
 obtain ⟨o,ho⟩ := S.mods
 have := c.own d (.inl ⟨_,hd,λ _ e => by cases e⟩)
 rw [z,ho] at this; exact sn this
theorem isInt_self (k : Int) (t : Tok) : (intKind prog w).is k (.int k t) = true := by refine (?_ : Value.isInt k (.int k t) = true); simp [Value.isInt]
theorem isv_ok {a b : AV} {r : Bool} {x y : Value} {h : Heap} {P : Addr → Prop} (e : isv a b = some r) (p : vrel h P a x) (q : vrel h P b y) :
   (∀ {Q : Value → Shared → Prop} {s : Shared},Q (.bool r) s → wpAny (model prog w) A (compareOp .Is x y) Q E s) ∧ (∀ {Q : Value → Shared → Prop} {s : Shared},Q (.bool (!r)) s → wpAny (model prog w) A (compareOp .IsNot x y) Q E s) := by
 cases a <;> cases b <;> first | exact nn e | exact ft e | (cases e; done) | skip
 case none.none => cases p; cases q; cases e; exact ⟨λ h => wpAny_is_self rfl h,λ h => wpAny_isNot_self rfl h⟩
 case none.ref => cases p; cases q; cases e; exact ⟨λ h => wpAny_is_other rfl (by intro z; cases z) h,λ h => wpAny_isNot_other rfl (by intro z; cases z) h⟩
 case ref.none => cases p; cases q; cases e; exact ⟨λ h => wpAny_is_other rfl (by intro z; cases z) h,λ h => wpAny_isNot_other rfl (by intro z; cases z) h⟩
 case int.none => obtain ⟨t,rfl⟩ := p; cases q; cases e; exact ⟨λ h => wpAny_is_other rfl (by intro z; cases z) h,λ h => wpAny_isNot_other rfl (by intro z; cases z) h⟩
 case ref.ref x y =>
   cases p; cases q
   have e : (if x = y then some true else Option.none) = some r := e
   split at e
   · cases e; rename_i z; subst z; exact ⟨λ h => wpAny_is_ref_self h,λ h => wpAny_isNot_ref_self h⟩
   · exact nn e
theorem in_inv {H : AHeap} {a b : AV} {r : Bool} (e : cmpv H .in_ a b = some r) : ∃ k d es,a = .int k ∧ b = .ref d ∧ H d = some (.idict es) ∧ some (keyOf es k).isSome = some r := by
 cases a <;> first | exact nn e | exact ft e | (cases e; done) | skip
 cases b <;> first | exact nn e | exact ft e | (cases e; done) | skip
 rename_i k d
 replace e : (match H d with | some (.idict es) => some (keyOf es k).isSome | _ => none) = some r := e
 cases hd : H d with
 | none => rw [hd] at e; exact nn e
 | some od =>
   rw [hd] at e
   cases od <;> first | exact nn e | exact ft e | (cases e; done) | exact ⟨k,d,_,rfl,rfl,hd,e⟩
theorem cmp_ok {K : Frag} (S : Stat K base) (c : Conc prog w base H s.heap) {op : CmpOp} {o : Cop} {a b : AV} {r : Bool} {x y : Value} (ho : cCop op = some o) (e : cmpv H o a b = some r) (p : vrel s.heap (foot H) a x) (q : vrel s.heap (foot H) b y) (hu : A.units + 5 < cLine)
   (h : Q (.bool r) H) : wpAny (model prog w) A (compareOp op x y) (λ v s' => v = .bool r ∧ EP prog w vrel base s H Q v s') E s := by
 have fin : ∀ tk,(Value.bool r) = .bool r ∧ EP prog w vrel base s H Q (.bool r) { s with toks := tk } := λ tk => ⟨rfl,EP.toks c vrel_bool h⟩
 cases op <;> cases ho
 case Eq.refl => exact (eqTop_ok c e p q hu).1 prog w E _ (fin s.toks)
 case NotEq.refl =>
   obtain ⟨r',e1,e2⟩ := Option.map_eq_some_iff.mp (show (eqTop H a b).map (!·) = some r from e)
   subst e2
   exact (eqTop_ok c e1 p q hu).2 prog w E _ (fin s.toks)
 case Lt.refl => obtain ⟨i,j,rfl,rfl,rfl⟩ := cmp_inv (f := λ x y => decide (x < y)) e; obtain ⟨t,rfl⟩ := p; obtain ⟨u,rfl⟩ := q; exact P.lt_int (fin s.toks)
 case LtE.refl => obtain ⟨i,j,rfl,rfl,rfl⟩ := cmp_inv (f := λ x y => decide (x ≤ y)) e; obtain ⟨t,rfl⟩ := p; obtain ⟨u,rfl⟩ := q; exact P.le_int (fin s.toks)
 case Gt.refl => obtain ⟨i,j,rfl,rfl,rfl⟩ := cmp_inv (f := λ x y => decide (x > y)) e; obtain ⟨t,rfl⟩ := p; obtain ⟨u,rfl⟩ := q; exact P.gt_int (fin s.toks)
 case GtE.refl => obtain ⟨i,j,rfl,rfl,rfl⟩ := cmp_inv (f := λ x y => decide (x ≥ y)) e; obtain ⟨t,rfl⟩ := p; obtain ⟨u,rfl⟩ := q; exact P.ge_int (fin s.toks)
 case Is.refl => exact (isv_ok e p q).1 (fin s.toks)
 case IsNot.refl =>
   obtain ⟨r',e1,e2⟩ := Option.map_eq_some_iff.mp (show (isv a b).map (!·) = some r from e)
   subst e2
   exact (isv_ok e1 p q).2 (fin s.toks)
 case In.refl =>
   obtain ⟨k,d,es,rfl,rfl,hd,e⟩ := in_inv e
   obtain ⟨t,rfl⟩ := p; cases q
   focus
     obtain ⟨kvs,D,rr⟩ := c.obj d _ hd
     have m := keyOf_rel k rr
     refine wpAny_in_of (isInt_self k t) (not_mods S c hd) D.mapOf ?_
     have e2 : (valueAt kvs k).isSome = r := by
       cases e
       cases z : keyOf es k with
       | none => rw [z] at m; rw [m]; rfl
       | some u => rw [z] at m; obtain ⟨v,m,_⟩ := m; rw [m]; rfl
     rw [e2]
     exact fin _
end

end P_S5

section P_S6
open PySem PySem.W PySem.Calls PyProof.Rows PySem.SeqAt

section
variable {prog : Program} {w : World} {base : Heap} {A : Around} {E : Value → Shared → Prop} {s : Shared} {H : AHeap} {Q : AV → AHeap → Prop}
theorem list_at (c : Conc prog w base H s.heap) {l : Addr} {xs : List AV} (hl : H l = some (.list xs)) : ∃ vs n,s.heap.get? l = some { cls := .type "list",data := .seq (List.toArray vs) n } ∧ vrels s.heap (foot H) xs vs ∧ vs.length = xs.length := by
 obtain ⟨vs,⟨n,ho⟩,r⟩ := c.obj l _ hl
 exact ⟨vs,n,ho,r,vrels_length r⟩
theorem isList_of {h : Heap} {l : Addr} {vs : List Value} {n : Nat} (ho : h.get? l = some { cls := .type "list",data := .seq (List.toArray vs) n }) : h.IsList l (List.toArray vs) := ⟨_,ho,rfl,n,rfl⟩
theorem len_ok (c : Conc prog w base H s.heap) {l : Addr} {xs : List AV} (hl : H l = some (.list xs)) (hn : xs.length ≤ lim) (h : Q (.int xs.length) H) : wpAny (model prog w) A (call (.builtin "len") [.ref l]) (EP prog w vrel base s H Q) E s := by
 obtain ⟨vs,n,ho,r,e⟩ := list_at c hl
 unfold lim at hn
 refine call_len_list (isList_of ho) (by rw [List.size_toArray,e]; omega) ?_
 rw [List.size_toArray,e]
 exact EP.toks c vrel_int h
theorem list_ok (c : Conc prog w base H s.heap) {l : Addr} {xs : List AV} (hl : H l = some (.list xs)) (hn : xs.length ≤ lim) (h : fresh H (.list xs) Q) : wpAny (model prog w) A (call (.type "list") [.ref l]) (EP prog w vrel base s H Q) E s := by
 obtain ⟨vs,n,ho,r,e⟩ := list_at c hl
 unfold lim at hn
 exact call_list_seq l (.inl rfl) ho rfl rfl (λ h' c' hk hD => new_list c (none_size _) hk ⟨c',hD⟩ r h) (by rw [List.size_toArray,sizeLine_eq,e]; exact (ar (.i (.l N0 KM) (.l N0 (.k 16777216))) 1 [_] []) hn)
theorem abs_ok (c : Conc prog w base H s.heap) {i : Int} {x : Value} (p : vrel s.heap (foot H) (.int i) x) (h : Q (.int i.natAbs) H) : wpAny (model prog w) A (call (.builtin "abs") [x]) (EP prog w vrel base s H Q) E s := by
 obtain ⟨t,rfl⟩ := p
 refine call_abs_int λ u tk => ?_
 have e : (if i < 0 then -i else i) = (i.natAbs : Int) := by split <;> omega
 rw [e]
 exact EP.toks c vrel_int h
theorem min_ok (hh : A.handled = none) (c : Conc prog w base H s.heap) {i j : Int} {x y : Value} (p : vrel s.heap (foot H) (.int i) x) (q : vrel s.heap (foot H) (.int j) y) (h : Q (.int (min i j)) H) :
   wpAny (model prog w) A (call (.builtin "min") [x,y]) (EP prog w vrel base s H Q) E s := by
 obtain ⟨t,rfl⟩ := p; obtain ⟨u,rfl⟩ := q
 refine min_two_ints hh λ h' tk k => ?_
 by_cases hij : j < i
 · rw [if_pos hij]; have e : min i j = j := by exact (ar (.i (.T Z0 Z1) (.E (.i Z1 Z0) Z0)) 2 [] [_,_]) hij
   exact EP.grown c k vrel_int (e ▸ h)
 · rw [if_neg hij]; have e : min i j = i := by exact (ar (.i (.i (.T Z0 Z1) .f) (.E (.i Z1 Z0) Z1)) 2 [] [_,_]) hij
   exact EP.grown c k vrel_int (e ▸ h)
theorem max_ok (hh : A.handled = none) (c : Conc prog w base H s.heap) {i j : Int} {x y : Value} (p : vrel s.heap (foot H) (.int i) x) (q : vrel s.heap (foot H) (.int j) y) (h : Q (.int (max i j)) H) :
   wpAny (model prog w) A (call (.builtin "max") [x,y]) (EP prog w vrel base s H Q) E s := by
 obtain ⟨t,rfl⟩ := p; obtain ⟨u,rfl⟩ := q
 refine max_two_ints hh λ h' tk k => ?_
 by_cases hij : j > i
 · rw [if_pos hij]; have e : max i j = j := by exact (ar (.i (.T Z1 Z0) (.E (.o Z1 Z0) Z0)) 2 [] [_,_]) hij
   exact EP.grown c k vrel_int (e ▸ h)
 · rw [if_neg hij]; have e : max i j = i := by exact (ar (.i (.i (.T Z1 Z0) .f) (.E (.o Z1 Z0) Z1)) 2 [] [_,_]) hij
   exact EP.grown c k vrel_int (e ▸ h)
theorem append_ok (c : Conc prog w base H s.heap) {l : Addr} {xs : List AV} {a : AV} {x : Value} (hl : H l = some (.list xs)) (hn : xs.length < lim) (p : vrel s.heap (foot H) a x) (h : Q .none (H.set l (.list (xs ++ [a])))) :
   wpAny (model prog w) A (call (.builtin "list.append") [.ref l,x]) (EP prog w vrel base s H Q) E s := by
 obtain ⟨vs,n,ho,r,e⟩ := list_at c hl
 unfold lim at hn
 refine wpAny_list_append_plain ⟨n,ho⟩ (λ h' hp hs => ?_) (by rw [List.size_toArray,sizeLine_eq,e]; exact (ar (.i (.t N0 KM) (.l N0 (.k 16777216))) 1 [_] []) hn)
 have mono : ∀ b o,s.heap.get? b = some o → ¬ foot H b → h'.get? b = some o ∧ ¬ foot H b := λ b o q m => ⟨(hs.2 b λ z => m (z ▸ .inl ⟨_,hl,λ _ z => by cases z⟩)).trans q,m⟩
 obtain ⟨c',st⟩ := c.setPlain hl (o := .list (xs ++ [a])) rfl rfl hs (let ⟨_,q⟩ := hp; ⟨_,q⟩) ⟨vs ++ [x],by simpa using hp,vrels_mono mono (vrels_append r (vrels_one p))⟩
 exact EP.at (tk := s.toks) c' st vrel_none h
theorem pop0_ok (c : Conc prog w base H s.heap) {l : Addr} {xs : List AV} {a : AV} {t : Tok} (hl : H l = some (.list (a :: xs))) (hn : xs.length < lim) (h : Q a (H.set l (.list xs))) :
   wpAny (model prog w) A (call (.builtin "list.pop") [.ref l,.int 0 t]) (EP prog w vrel base s H Q) E s := by
 obtain ⟨vs,n,ho,⟨v,r,e',q1,q2⟩,e⟩ := list_at c hl
 subst e'
 unfold lim at hn
 have hsz : (v :: r).toArray.size ≤ sizeLine := by rw [List.size_toArray,sizeLine_eq,e,List.length_cons]; exact (ar (.i (.t N0 KM) (.l (.a N0 K1) (.k 16777216))) 1 [_] []) hn
 have hn' : seqIndex? 0 (v :: r).toArray.size = some 0 := by unfold seqIndex?; simp
 refine call_meets F.slot_list_pop ⟨_,ho,rfl⟩ F.entry_list_pop (F.args_list_pop_2 _ _) (MeetsSeq.list_pop_at l (v :: r).toArray n 0 t 0 v (by decide) hn' rfl hsz) ⟨ho, ?_⟩
 have hs := Heap.SameBut.update s.heap l (Obj.mapSeq λ xs => xs.eraseIdxIfInBounds 0)
 have hp : (s.heap.update l (Obj.mapSeq λ xs => xs.eraseIdxIfInBounds 0)).PlainList l r.toArray := by
   refine ⟨n + 1, ?_⟩
   rw [Heap.get?_update_self _ ho rfl]
   simp [Obj.mapSeq]
 have mono : ∀ b o,s.heap.get? b = some o → ¬ foot H b → _ ∧ ¬ foot H b := λ b o q m => ⟨(hs.2 b λ z => m (z ▸ .inl ⟨_,hl,λ _ z => by cases z⟩)).trans q,m⟩
 obtain ⟨c',st⟩ := c.setPlain hl (o := .list xs) rfl rfl hs (let ⟨_,q⟩ := hp; ⟨_,q⟩) ⟨r,hp,vrels_mono mono q2⟩
 exact EP.at (tk := s.toks) c' st (vrel_mono st.mono q1) h
end

end P_S6

section P_S7
open PySem PySem.W PySem.Calls PyProof.Rows PySem.SeqAt
open PySem.Heap (IsSliceOf)

section
variable {prog : Program} {w : World} {base : Heap} {A : Around} {E : Value → Shared → Prop} {s : Shared} {H : AHeap} {Q : AV → AHeap → Prop}
theorem nth_rel {h : Heap} {P : Addr → Prop} {xs : List AV} {vs : List Value} (r : vrels h P xs vs) {k : Int} {a : AV} (e : nth xs k = some a) :
   ∃ j x,seqIndex? k vs.toArray.size = some j ∧ vs.toArray[j]? = some x ∧ vrel h P a x ∧ -1000000 ≤ k ∧ k < 1000000 ∧ (0 ≤ k → j = k.toNat) ∧ (k < 0 → j = (k + vs.length).toNat ∧ -(vs.length : Int) ≤ k) := by
 have hl := vrels_length r
 unfold nth lim at e
 split at e
 · rename_i h0
   split at e
   · rename_i h1
     obtain ⟨x,e1,q⟩ := vrels_get r e
     have hj := (List.getElem?_eq_some_iff.mp e1).1
     refine ⟨k.toNat,x, ?_,by simpa using e1,q,by exact (ar (.i (.L K0 Z0) (.L (.g KM) Z0)) 1 [] [_]) h0,by exact (ar (.i (.T Z0 (.u KM)) (.T Z0 KM)) 1 [] [_]) h1,λ _ => rfl,λ z => absurd h0 (by exact (False.elim ((ar (.i (.L K0 Z0) (.i (.T Z0 K0) .f)) 1 [] [_]) h0 z)))⟩
     unfold seqIndex?
     rw [List.size_toArray]
     simp only [show ¬ k < 0 by exact (ar (.i (.L K0 Z0) (.i (.T Z0 K0) .f)) 1 [] [_]) h0,if_false]
     rw [if_pos (by simp; exact (ar (.i (.L K0 Z0) (.i (.t (.t Z0) N0) (.a (.L K0 Z0) (.T Z0 (.u N0))))) 1 [_] [_]) h0 hj)]
   · exact nn e
 · rename_i h0
   split at e
   · rename_i h1
     obtain ⟨h1,h2⟩ := h1
     obtain ⟨x,e1,q⟩ := vrels_get r e
     have hj := (List.getElem?_eq_some_iff.mp e1).1
     refine ⟨(k + xs.length).toNat,x, ?_,by simpa using e1,q,by exact (ar (.i (.L (.g (.u KM)) Z0) (.L (.g KM) Z0)) 1 [] [_]) h2,by exact (ar (.i (.i (.L K0 Z0) .f) (.T Z0 KM)) 1 [] [_]) h0,λ z => absurd z h0,λ _ => by rw [hl]; exact ⟨rfl,by exact (ar (.i (.L K0 (.a Z0 (.u N0))) (.L (.g (.u N0)) Z0)) 1 [_] [_]) h1⟩⟩
     unfold seqIndex?
     rw [List.size_toArray,hl]
     simp only [show k < 0 by exact (ar (.i (.i (.L K0 Z0) .f) (.T Z0 K0)) 1 [] [_]) h0,if_true]
     rw [if_pos (by simp; exact (ar (.i (.L K0 (.a Z0 (.u N0))) (.i (.i (.L K0 Z0) .f) (.a (.L K0 (.a Z0 (.u N0))) (.T (.a Z0 (.u N0)) (.u N0))))) 1 [_] [_]) h1 h0)]
   · exact nn e
theorem idx_ok (c : Conc prog w base H s.heap) {a b r : AV} {x y : Value} (e : idxv H a b = some r) (p : vrel s.heap (foot H) a x) (q : vrel s.heap (foot H) b y) (h : Q r H) :
   wpAny (model prog w) A (getItem x y) (EP prog w vrel base s H Q) E s := by
 cases a <;> cases b <;> first | exact nn e | exact ft e | (cases e; done) | skip
 case ref.int l k =>
   cases p; obtain ⟨t,rfl⟩ := q
   unfold idxv at e
   cases hl : H l with
   | none => simp only [hl] at e; exact nn e
   | some ol =>
     simp only [hl] at e
     cases ol <;> first | exact nn e | exact ft e | (cases e; done) | skip
     · rename_i xs
       obtain ⟨vs,n,ho,rr,el⟩ := list_at c hl
       obtain ⟨j,v,e1,e2,e3,e4,e5,e6,e7⟩ := nth_rel rr e
       by_cases hk : 0 ≤ k
       · rw [e6 hk] at e2
         exact wpAny_getItem_list (isList_of ho) hk (by omega) e2 (EP.here c e3 h)
       · obtain ⟨z1,z2⟩ := e7 (by exact (ar (.i (.i (.L K0 Z0) .f) (.T Z0 K0)) 1 [] [_]) hk)
         subst z1
         exact wpAny_getItem_list_neg (isList_of ho) (by exact (ar (.i (.i (.L K0 Z0) .f) (.T Z0 K0)) 1 [] [_]) hk) (by rw [List.size_toArray]; exact z2) (by omega) (by rw [List.size_toArray]; exact e2) (EP.here c e3 h)
     · rename_i es
       obtain ⟨kvs,D,rr⟩ := c.obj l _ hl
       have m := keyOf_rel k rr
       rw [show keyOf es k = some r from e] at m
       obtain ⟨v,m,z⟩ := m
       exact wpAny_getItem_of (isInt_self k t) D.mapOf m (EP.toks c z h)
 case tup.int xs k =>
   obtain ⟨l,vs,rfl,_,i,rr⟩ := p; obtain ⟨t,rfl⟩ := q
   obtain ⟨j,v,e1,e2,e3,e4,e5,e6,e7⟩ := nth_rel rr (show nth xs k = some r from e)
   exact PyProof.Rows.getItem_tuple i (by omega) (by omega) e1 e2 (EP.here c e3 h)
theorem kms_cut {xs : List AV} {vs : List Value} {h : Heap} {P : Addr → Prop} (r : vrels h P xs vs) {lo hi : Option Int} (h1 : ∀ i,lo = some i → 0 ≤ i) (h2 : ∀ i,hi = some i → 0 ≤ i) : vrels h P (cutv xs lo hi) (kms_pick vs lo hi) := by
 have e : kms_pick vs lo hi = (match hi with | some h => vs.take h.toNat | none => vs).drop (match lo with | some l => l.toNat | none => 0) := by
   unfold kms_pick kms_lo kms_hi
   cases lo with
   | none =>
     cases hi with
     | none => simp
     | some j =>
       have := h2 j rfl
       simp only [show ¬ j < 0 by exact (ar (.i (.L K0 Z0) (.i (.T Z0 K0) .f)) 1 [] [_]) this,if_false,List.drop_zero,Nat.sub_zero]
       rw [List.take_eq_take_iff]; exact ar (.e (.i (.i (.t Z0) N0) N0) (.i (.t Z0) N0)) 1 [_] [_]
   | some i =>
     have := h1 i rfl
     simp only [show ¬ i < 0 by exact (ar (.i (.L K0 Z0) (.i (.T Z0 K0) .f)) 1 [] [_]) this,if_false]
     cases hi with
     | none =>
       simp only
       by_cases hh : i.toNat ≤ vs.length
       · rw [Nat.min_eq_left hh,List.take_of_length_le (by simp)]
       · rw [Nat.min_eq_right (by exact (ar (.i (.i (.l (.t Z0) N0) .f) (.l N0 (.t Z0))) 1 [_] [_]) hh),List.drop_of_length_le (Nat.le_refl _),List.drop_of_length_le (by exact (ar (.i (.i (.l (.t Z0) N0) .f) (.l N0 (.t Z0))) 1 [_] [_]) hh)]; simp
     | some j =>
       have := h2 j rfl
       simp only [show ¬ j < 0 by exact (ar (.i (.L K0 Z0) (.i (.T Z0 K0) .f)) 1 [] [_]) this,if_false]
       rw [List.drop_take]
       by_cases hh : i.toNat ≤ vs.length
       · rw [Nat.min_eq_left hh,List.take_eq_take_iff]; simp only [List.length_drop]; exact ar (.e (.i (.s (.i N1 N0) N2) (.s N0 N2)) (.i (.s N1 N2) (.s N0 N2))) 3 [_,_,_] []
       · rw [Nat.min_eq_right (show vs.length ≤ i.toNat by exact (ar (.i (.i (.l (.t Z0) N0) .f) (.l N0 (.t Z0))) 1 [_] [_]) hh),List.drop_of_length_le (Nat.le_refl _),List.drop_of_length_le (show vs.length ≤ i.toNat by exact (ar (.i (.i (.l (.t Z0) N0) .f) (.l N0 (.t Z0))) 1 [_] [_]) hh)]; simp
 rw [e]
 unfold cutv
 cases lo <;> cases hi <;> simp only [List.drop_zero] <;> first | exact r | exact vrels_drop _ r | exact vrels_take _ r | exact vrels_drop _ (vrels_take _ r)
noncomputable def partV : Option Int → AV
 | none => .none
 | some i => .int i
theorem part_rel {h : Heap} {P : Addr → Prop} {o : Option AV} {l : Option Int} (e : partOk o = some l) : o.getD .none = partV l ∧ ∀ i,l = some i → 0 ≤ i := by
 unfold partOk at e
 split at e
 · cases e; exact ⟨rfl,λ _ z => by exact nn z⟩
 · split at e
   · cases e; rename_i q; exact ⟨rfl,λ _ z => by cases z; exact q⟩
   · exact nn e
 · exact nn e
theorem isPart_of {h : Heap} {P : Addr → Prop} {l : Option Int} {v : Value} (r : vrel h P (partV l) v) : IsPart v l := by
 cases l with
 | none => cases r; exact .none
 | some i => obtain ⟨t,rfl⟩ := r; exact .int i t
theorem seqAt_list (c : Conc prog w base H s.heap) {l : Addr} {xs : List AV} (hl : seqAt H l = some xs) : ∃ vs,s.heap.IsList l (List.toArray vs) ∧ vrels s.heap (foot H) xs vs ∧ vs.length = xs.length := by
 unfold seqAt at hl
 split at hl
 · cases hl; rename_i e; obtain ⟨vs,n,ho,r,el⟩ := list_at c e; exact ⟨vs,isList_of ho,r,el⟩
 · cases hl; rename_i e; obtain ⟨vs,ho,r⟩ := c.obj l _ e; exact ⟨vs,ho,r,vrels_length r⟩
 · exact nn hl
theorem slice_ok (c : Conc prog w base H s.heap) {l : Addr} {xs : List AV} {lo hi : Option Int} {vl vu : Value} (hl : seqAt H l = some xs) (h1 : ∀ i,lo = some i → 0 ≤ i) (h2 : ∀ i,hi = some i → 0 ≤ i) (hn : xs.length ≤ 16000000)
   (p : vrel s.heap (foot H) (partV lo) vl) (q : vrel s.heap (foot H) (partV hi) vu) (h : fresh H (.list (cutv xs lo hi)) Q) :
   wpAny (model prog w) A (getItem (.ref l) (.ref s.heap.objs.size)) (EP prog w vrel base s H Q) E { s with heap := s.heap.push { cls := .type "slice",data := .fields #[vl,vu,.none] } } := by
 obtain ⟨vs,ho,r,el⟩ := seqAt_list c hl
 refine wpAny_getItem_list_slice (s := { s with heap := s.heap.push { cls := .type "slice",data := .fields #[vl,vu,.none] } }) (ho.push _) (IsSliceOf.new ..) (isPart_of p) (isPart_of q) .none (by simp) ?_ (by rw [List.size_toArray,sizeLine_eq,el]; exact (ar (.i (.l N0 (.k 16000000)) (.l N0 (.k 16777216))) 1 [_] []) hn)
 rw [kms_pick_eq]
 refine new_list c ?_ (λ b o e => push_keep _ b o (push_keep _ b o e)) push_list (kms_cut r h1 h2) h
 rw [Heap.size_push]
 unfold Heap.get?; simp
theorem rev_ok (c : Conc prog w base H s.heap) {l : Addr} {xs : List AV} {t : Tok} (hl : H l = some (.list xs)) (hn : xs.length ≤ lim) (h : fresh H (.list xs.reverse) Q) :
   wpAny (model prog w) A (getItem (.ref l) (.ref s.heap.objs.size)) (EP prog w vrel base s H Q) E { s with heap := s.heap.push { cls := .type "slice",data := .fields #[.none,.none,.int (-1) t] } } := by
 obtain ⟨vs,n,ho,r,el⟩ := list_at c hl
 unfold lim at hn
 refine wpAny_getItem_list_slice (s := { s with heap := s.heap.push { cls := .type "slice",data := .fields #[.none,.none,.int (-1) t] } }) ((isList_of ho).push _) (IsSliceOf.new ..) .none .none (.int (-1) t) (by decide) ?_ (by rw [List.size_toArray,sizeLine_eq,el]; exact (ar (.i (.l N0 KM) (.l N0 (.k 16777216))) 1 [_] []) hn)
 rw [krv_pick]
 refine new_list c ?_ (λ b o e => push_keep _ b o (push_keep _ b o e)) push_list (vrels_reverse r) h
 rw [Heap.size_push]
 unfold Heap.get?; simp
theorem listSubscript_slice {sl : Addr} {vl vu vs : Value} {Q : Option Int → Shared → Prop} (hs : s.heap.IsSliceOf sl vl vu vs) (h : Q none s) : wpAny (model prog w) A (Builtin.List.listSubscript? (.ref sl)) Q E s := by
 obtain ⟨os,hos,hcs,hds⟩ := hs
 unfold Builtin.List.listSubscript?
 refine wpAny_bind (wpAny_specialOf (T := "slice") ⟨os,hos,hcs⟩ slice_no_index ?_)
 simp only [Option.isNone_none,if_true]
 exact wpAny_pure h
theorem setItem_plain {l : Addr} {items : Array Value} {n : Nat} {k : Int} {t : Tok} {v : Value} {j : Nat} {Q : Unit → Shared → Prop} (ho : s.heap.get? l = some { cls := .type "list",data := .seq items n }) (hj : seqIndex? k items.size = some j) (h1 : -1000000 ≤ k) (h2 : k < 1000000)
   (h0 : 0 ≤ k → j = k.toNat) (hb : j < items.size) (hQ : Q () { s with heap := s.heap.update l (Obj.mapSeq (·.setIfInBounds j v)) }) : wpAny (model prog w) A (setItem (.ref l) (.int k t) v) Q E s := by
 have hT : s.TypeIs (.ref l) "list" := ⟨_,ho,rfl⟩
 unfold setItem
 try with_reducible refine wpAny_holding ?_
 first | refine wpAny_bind (wpAny_pure ?_) | skip
 refine wpAny_bind (wpAny_sequenceKey hT (by decide) ?_)
 refine wpAny_bind (wpAny_callSpecial?_slot (name := Str.ofString "__setitem__") hT PySem.F.slot_list_setitem
   (wpAny_call_entry PySem.F.slot_list_setitem hT PySem.F.entry_list_setitem ?_ (PySem.F.args_list_setitem_3 _ _ _)))
 refine (?_ : wpAny _ _ (Builtin.List.listSubscript? (.int k t) >>= _) _ _ s)
 refine wpAny_bind (wpAny_listSubscript_int (by simp [Builtin.List.listFitsIndex]; exact (ar (.i (.L (.g KM) Z0) (.i (.T Z0 KM) (.a (.L (.g (.k 9223372036854775808)) Z0) (.T Z0 (.k 9223372036854775808))))) 1 [] [_]) h1 h2) ?_)
 have hx : items[j]? = some items[j] := Array.getElem?_eq_getElem hb
 by_cases hk : 0 ≤ k
 · have := h0 hk
   subst this
   obtain ⟨j,rfl⟩ := Int.eq_ofNat_of_zero_le hk
   refine (?_ : wpAny _ _ ((seqItemAt l j >>= λ r => pure (r.map (j,·))) >>= _) _ _ s)
   refine wpAny_bind (wpAny_bind (wpAny_seqItemAt ho rfl (wpAny_pure ?_)))
   rw [show items[j]? = some items[j] from hx]
   refine (?_ : wpAny _ _ (setSeqItemAt l j v >>= _) _ _ s)
   refine wpAny_bind (wpAny_setSeqItemAt ho rfl ?_)
   first
     | exact wpAny_bind (wpAny_pure (wpAny_pure ⟨.none,rfl,wpAny_pure hQ⟩))
     | exact wpAny_pure ⟨.none,rfl,wpAny_pure hQ⟩
 · obtain ⟨i,rfl⟩ : ∃ i : Nat,k = Int.negSucc i := by
     cases k with
     | ofNat n => exact absurd (Int.ofNat_nonneg n) hk
     | negSucc n => exact ⟨n,rfl⟩
   refine (?_ : wpAny _ _ ((Builtin.List.listItems (.ref l) >>= λ xs => pure ((seqIndex? (Int.negSucc i) xs.size).bind λ i => xs[i]?.map (i,·))) >>= _) _ _ s)
   refine wpAny_bind (wpAny_bind ?_)
   refine (?_ : wpAny _ _ (seqItems? (.ref l) >>= _) _ _ s)
   refine wpAny_bind (wpAny_seqItems ho rfl (wpAny_pure (wpAny_pure ?_)))
   rw [hj]
   simp only [Option.bind_some,hx,Option.map_some]
   refine (?_ : wpAny _ _ (setSeqItemAt l j v >>= _) _ _ s)
   refine wpAny_bind (wpAny_setSeqItemAt ho rfl ?_)
   first
     | exact wpAny_bind (wpAny_pure (wpAny_pure ⟨.none,rfl,wpAny_pure hQ⟩))
     | exact wpAny_pure ⟨.none,rfl,wpAny_pure hQ⟩
theorem Conc.rewrite (c : Conc prog w base H s.heap) {l : Addr} {xs ys : List AV} {vs us : List Value} {n : Nat} (hl : H l = some (.list xs)) (ho : s.heap.get? l = some { cls := .type "list",data := .seq vs.toArray n }) (f : Array Value → Array Value)
   (hf : f vs.toArray = us.toArray) (r : vrels s.heap (foot H) ys us) : Conc prog w base (H.set l (.list ys)) (s.heap.update l (Obj.mapSeq f)) ∧ Step noX H s.heap (H.set l (.list ys)) (s.heap.update l (Obj.mapSeq f)) := by
 have hs := Heap.SameBut.update s.heap l (Obj.mapSeq f)
 have hp : (s.heap.update l (Obj.mapSeq f)).PlainList l us.toArray := by
   refine ⟨if (f vs.toArray).size == vs.toArray.size then n else n + 1, ?_⟩
   rw [Heap.get?_update_self _ ho rfl,← hf]
   simp only [Obj.mapSeq]
 have mono : ∀ b o,s.heap.get? b = some o → ¬ foot H b → _ ∧ ¬ foot H b := λ b o q m => ⟨(hs.2 b λ z => m (z ▸ .inl ⟨_,hl,λ _ z => by cases z⟩)).trans q,m⟩
 exact c.setPlain hl (o := .list ys) rfl rfl hs (let ⟨_,q⟩ := hp; ⟨_,q⟩) ⟨us,hp,vrels_mono mono r⟩
theorem setList_ok (c : Conc prog w base H s.heap) {l : Addr} {xs : List AV} {k : Int} {t : Tok} {u : AV} {x : Value} {j : Nat} {R : Unit → Shared → Prop} (hl : H l = some (.list xs)) (hn : xs.length ≤ lim) (hj : if 0 ≤ k then k < xs.length ∧ j = k.toNat else 0 ≤ k + xs.length ∧ j = (k + xs.length).toNat)
   (p : vrel s.heap (foot H) u x) (h : ∀ h',Conc prog w base (H.set l (.list (xs.set j u))) h' → Step noX H s.heap (H.set l (.list (xs.set j u))) h' → R () { s with heap := h' }) :
   wpAny (model prog w) A (setItem (.ref l) (.int k t) x) R E s := by
 obtain ⟨vs,n,ho,r,e⟩ := list_at c hl
 unfold lim at hn
 have hj' : seqIndex? k vs.toArray.size = some j ∧ j < vs.toArray.size ∧ (0 ≤ k → j = k.toNat) ∧ -1000000 ≤ k ∧ k < 1000000 := by
   unfold seqIndex?
   rw [List.size_toArray,e]
   split at hj
   · obtain ⟨z1,z2⟩ := hj
     simp only [show ¬ k < 0 by exact (ar (.i (.L K0 Z0) (.i (.T Z0 K0) .f)) 1 [] [_]) (by assumption),if_false]
     rw [if_pos (by simp; exact (ar (.i (.L K0 Z0) (.i (.T Z0 (.u N0)) (.a (.L K0 Z0) (.T Z0 (.u N0))))) 1 [_] [_]) (by assumption) z1)]
     exact ⟨by rw [z2],by exact (ar (.i (.e N0 (.t Z0)) (.i (.L K0 Z0) (.i (.T Z0 (.u N1)) (.t N0 N1)))) 2 [_,_] [_]) z2 (by assumption) z1,λ _ => z2,by exact (ar (.i (.L K0 Z0) (.L (.g KM) Z0)) 1 [] [_]) (by assumption),by exact (ar (.i (.l N0 KM) (.i (.T Z0 (.u N0)) (.T Z0 KM))) 1 [_] [_]) hn z1⟩
   · obtain ⟨z1,z2⟩ := hj
     simp only [show k < 0 by exact (ar (.i (.i (.L K0 Z0) .f) (.T Z0 K0)) 1 [] [_]) (by assumption),if_true]
     rw [if_pos (by simp; exact (ar (.i (.L K0 (.a Z0 (.u N0))) (.i (.i (.L K0 Z0) .f) (.a (.L K0 (.a Z0 (.u N0))) (.T (.a Z0 (.u N0)) (.u N0))))) 1 [_] [_]) z1 (by assumption))]
     exact ⟨by rw [z2],by exact (ar (.i (.e N0 (.t (.a Z0 (.u N1)))) (.i (.L K0 (.a Z0 (.u N1))) (.i (.i (.L K0 Z0) .f) (.t N0 N1)))) 2 [_,_] [_]) z2 z1 (by assumption),λ z => by exact (False.elim ((ar (.i (.L K0 Z0) (.i (.i (.L K0 Z0) .f) .f)) 1 [] [_]) z (by assumption))),by exact (ar (.i (.L K0 (.a Z0 (.u N0))) (.i (.l N0 KM) (.L (.g KM) Z0))) 1 [_] [_]) z1 hn,by exact (ar (.i (.i (.L K0 Z0) .f) (.T Z0 KM)) 1 [] [_]) (by assumption)⟩
 obtain ⟨z1,z2,z3,z4,z5⟩ := hj'
 refine setItem_plain ho z1 z4 z5 z3 z2 ?_
 obtain ⟨c',st⟩ := c.rewrite hl ho (λ xs => xs.setIfInBounds j x) (us := vs.set j x) (by simp) (vrels_set r p)
 exact h _ c' st
theorem setDict_ok (c : Conc prog w base H s.heap) {l : Addr} {es : List (Int × AV)} {k : Int} {t : Tok} {u : AV} {x : Value} {R : Unit → Shared → Prop} (hl : H l = some (.idict es)) (hn : es.length ≤ 900)
   (p : vrel s.heap (foot H) u x) (h : ∀ h' tk,Conc prog w base (H.set l (.idict (putKey es k u))) h' → Step noX H s.heap (H.set l (.idict (putKey es k u))) h' → R () { s with heap := h',toks := tk }) :
   wpAny (model prog w) A (setItem (.ref l) (.int k t) x) R E s := by
 obtain ⟨kvs,D,r⟩ := c.obj l _ hl
 refine wpAny_setItem_pairs (isInt_self k t) D (λ h' D' hs => ?_) (by rw [drel_len r,sizeLine_eq]; exact (ar (.i (.l N0 (.k 900)) (.l N0 (.k 16777216))) 1 [_] []) hn)
 have mono : ∀ b o,s.heap.get? b = some o → ¬ foot H b → _ ∧ ¬ foot H b := λ b o q m => ⟨(hs.2 b λ z => m (z ▸ .inl ⟨_,hl,λ _ z => by cases z⟩)).trans q,m⟩
 obtain ⟨c',st⟩ := c.setPlain hl (o := .idict (putKey es k u)) rfl rfl hs (by obtain ⟨_,_,_,q,_⟩ := D'; exact ⟨_,q⟩) ⟨_,D',drel_mono mono (drel_put k p r)⟩
 exact h _ _ c' st
end

end P_S7

section P_S8
open PySem PySem.W PySem.Calls PyProof.Rows PySem.SeqAt

section
variable {prog : Program} {w : World} {base : Heap} {A : Around} {E : Value → Shared → Prop} {s : Shared} {H : AHeap} {Q : AV → AHeap → Prop}
theorem cut_bounds {i j n : Nat} (h1 : i ≤ j) (h2 : j ≤ n) : sliceBounds (some (i : Int)) (some (j : Int)) none n = ((i : Int),(j : Int),1) := by
 rw [kms_bounds]
 unfold kms_lo kms_hi
 simp only [show ¬ (i : Int) < 0 by exact ar (.i (.T (.u N0) K0) .f) 1 [_] [],show ¬ (j : Int) < 0 by exact ar (.i (.T (.u N0) K0) .f) 1 [_] [],if_false,Int.toNat_natCast]
 rw [Nat.min_eq_left (by exact (ar (.i (.l N0 N1) (.i (.l N2 N0) (.l N2 N1))) 3 [_,_,_] []) h2 h1),Nat.min_eq_left h2]
theorem setSlice_plain {x y sl : Addr} {vs us : List Value} {n m i j : Nat} {t u : Tok} {Q : Unit → Shared → Prop} (hx : s.heap.get? x = some { cls := .type "list",data := .seq vs.toArray n }) (hy : s.heap.get? y = some { cls := .type "list",data := .seq us.toArray m })
   (hs : s.heap.IsSliceOf sl (.int i t) (.int j u) .none) (hxy : x ≠ y) (hij : i ≤ j) (hj : j ≤ vs.length) (hsz : vs.length + us.length ≤ 1000000)
   (hQ : Q () { s with heap := s.heap.update x (Obj.mapSeq λ xs => xs.extract 0 i ++ us.toArray ++ xs.extract j xs.size) }) : wpAny (model prog w) A (setItem (.ref x) (.ref sl) (.ref y)) Q E s := by
 have hT : s.TypeIs (.ref x) "list" := ⟨_,hx,rfl⟩
 have hTy : s.TypeIs (.ref y) "list" := ⟨_,hy,rfl⟩
 obtain ⟨os,hos,hcs,hds⟩ := id hs
 have hTs : s.TypeIs (.ref sl) "slice" := ⟨os,hos,hcs⟩
 unfold setItem
 try with_reducible refine wpAny_holding ?_
 first | refine wpAny_bind (wpAny_pure ?_) | skip
 refine wpAny_bind (wpAny_sequenceKey hT (by decide) ?_)
 refine wpAny_bind (wpAny_callSpecial?_slot (name := Str.ofString "__setitem__") hT PySem.F.slot_list_setitem
   (wpAny_call_entry PySem.F.slot_list_setitem hT PySem.F.entry_list_setitem ?_ (PySem.F.args_list_setitem_3 _ _ _)))
 refine (?_ : wpAny _ _ (Builtin.List.listSubscript? (.ref sl) >>= _) _ _ s)
 refine wpAny_bind (listSubscript_slice hs ?_)
 refine (?_ : wpAny _ _ (typeOf (.ref sl) >>= _) _ _ s)
 refine wpAny_bind (wpAny_typeOf hTs ?_)
 rw [if_neg (by decide)]
 rw [listSliceParts_eq]
 refine wpAny_bind (wpAny_bind (wpAny_field hos hds (x := .none) rfl (wpAny_bind (wpAny_listPart .none ?_))))
 rw [if_neg (by decide)]
 refine wpAny_bind (wpAny_field hos hds (x := .int i t) rfl (wpAny_bind (wpAny_listPart (.int _ _) ?_)))
 refine wpAny_bind (wpAny_field hos hds (x := .int j u) rfl (wpAny_bind (wpAny_listPart (.int _ _) (wpAny_pure ?_))))
 dsimp only
 rw [if_neg (by unfold Builtin.List.listSameRef; simpa using hxy)]
 refine wpAny_bind (m := Builtin.List.listAllItems (.ref y) _) ?_
 unfold Builtin.List.listAllItems
 refine wpAny_bind (wpAny_typeOf hTy ?_)
 rw [if_pos (by decide)]
 unfold Builtin.List.listItems
 refine wpAny_bind (wpAny_seqItems hy rfl (wpAny_pure ?_))
 refine wpAny_bind (m := Builtin.List.listItems (.ref x)) ?_
 unfold Builtin.List.listItems
 refine wpAny_bind (wpAny_seqItems hx rfl (wpAny_pure ?_))
 refine wpAny_bind (wpAny_of_eq (sliceIndices_raw (some (i : Int)) (some (j : Int)) none vs.toArray.size (by simp)) ?_)
 rw [cut_bounds hij (by simpa using hj)]
 dsimp only
 rw [if_pos (by decide)]
 refine wpAny_bind (wpAny_rule ?_)
 rw [if_neg (by unfold Builtin.List.listTooLong; rw [sizeLine_eq]; simp; exact (ar (.i (.l (.a N0 N1) KM) (.l (.a N0 N1) (.k 16777216))) 2 [_,_] []) hsz)]
 have hm : (max (i : Int) (j : Int)).toNat = j := by exact (ar (.i (.l N0 N1) (.e (.t (.o (.u N0) (.u N1))) N1)) 2 [_,_] []) hij
 refine (?_ : wpAny _ _ (updateSeq x _ >>= _) _ _ s)
 refine wpAny_bind (wpAny_updateSeq hx rfl ?_ (by rw [List.size_toArray,sizeLine_eq]; exact (ar (.i (.l (.a N0 N1) KM) (.l N0 (.k 16777216))) 2 [_,_] []) hsz) (by rw [sizeLine_eq]; simp; exact (ar (.i (.l (.a N0 N1) KM) (.l (.a (.i N2 N0) (.a N1 (.s N0 (.t (.o (.u N2) (.u N3)))))) (.k 16777217))) 4 [_,_,_,_] []) hsz))
 refine wpAny_bind (wpAny_letGo (wpAny_pure ⟨.none,rfl,wpAny_pure ?_⟩))
 rw [hm,Int.toNat_natCast]
 exact hQ
theorem setSlice_ok (c : Conc prog w base H s.heap) {x y : Addr} {xs ys : List AV} {i j : Int} {t u : Tok} {R : Unit → Shared → Prop} (hx : H x = some (.list xs)) (hy : H y = some (.list ys)) (hxy : x ≠ y) (h0 : 0 ≤ i) (hij : i ≤ j) (hj : j ≤ xs.length) (hn : xs.length + ys.length ≤ lim)
   (h : ∀ h' tk,Conc prog w base (H.set x (.list (xs.take i.toNat ++ ys ++ xs.drop j.toNat))) h' → Step noX H s.heap (H.set x (.list (xs.take i.toNat ++ ys ++ xs.drop j.toNat))) h' → R () { s with heap := h',toks := tk }) :
   wpAny (model prog w) A (setItem (.ref x) (.ref s.heap.objs.size) (.ref y)) R E { s with heap := s.heap.push { cls := .type "slice",data := .fields #[.int i t,.int j u,.none] } } := by
 obtain ⟨c₁,st₁⟩ := c.grown (push_keep { cls := .type "slice",data := .fields #[.int i t,.int j u,.none] })
 obtain ⟨vs,n,hox,rx,ex⟩ := list_at (s := { s with heap := s.heap.push { cls := .type "slice",data := .fields #[.int i t,.int j u,.none] } }) c₁ hx
 obtain ⟨us,m,hoy,ry,ey⟩ := list_at (s := { s with heap := s.heap.push { cls := .type "slice",data := .fields #[.int i t,.int j u,.none] } }) c₁ hy
 unfold lim at hn
 have hj0 : 0 ≤ j := Int.le_trans h0 hij
 obtain ⟨a,rfl⟩ := Int.eq_ofNat_of_zero_le h0
 obtain ⟨b,rfl⟩ := Int.eq_ofNat_of_zero_le hj0
 refine setSlice_plain (s := { s with heap := s.heap.push { cls := .type "slice",data := .fields #[.int (a : Int) t,.int (b : Int) u,.none] } }) hox hoy (Heap.IsSliceOf.new ..) hxy (i := a) (j := b) (by exact (ar (.i (.L (.u N0) (.u N1)) (.l N0 N1)) 2 [_,_] []) hij) (by exact (ar (.i (.e N0 N1) (.i (.L (.u N2) (.u N1)) (.l N2 N0))) 3 [_,_,_] []) ex hj) (by exact (ar (.i (.e N0 N1) (.i (.e N2 N3) (.i (.l (.a N3 N1) KM) (.l (.a N2 N0) KM)))) 4 [_,_,_,_] []) ey ex hn) ?_
 have e : (λ xs : Array Value => xs.extract 0 a ++ us.toArray ++ xs.extract b xs.size) vs.toArray = (vs.take a ++ us ++ vs.drop b).toArray := by
   apply Array.ext'
   simp only [Array.toList_append,Array.toList_extract,List.extract_eq_take_drop,List.size_toArray]
   simp
   exact List.take_of_length_le (by simp)
 obtain ⟨c',st⟩ := Conc.rewrite (s := { s with heap := s.heap.push { cls := .type "slice",data := .fields #[.int (a : Int) t,.int (b : Int) u,.none] } }) c₁ hx hox (λ xs : Array Value => xs.extract 0 a ++ us.toArray ++ xs.extract b xs.size) e (vrels_append (vrels_append (vrels_take a rx) ry) (vrels_drop b rx))
 exact h _ _ c' (st₁.trans st)
theorem listRange_ok (hh : A.handled = none) (c : Conc prog w base H s.heap) {n : Int} {t : Tok} (h0 : 0 ≤ n) (hn : n ≤ lim) (h : fresh H (.list ((List.range n.toNat).map λ (i : Nat) => AV.int (i : Int))) Q) :
   wpAny (model prog w) A (call (.type "range") [.int n t]) (λ r s' => wpAny (model prog w) A (call (.type "list") [r]) (EP prog w vrel base s H Q) E s') E s := by
 unfold lim at hn
 refine call_range_1 ?_
 refine call_list_range (s := { s with heap := s.heap.push { cls := .type "range",data := .fields #[.int 0 s.toks,.int n t,.int 1 (s.toks + 1)] },toks := s.toks + 1 + 1 }) hh (IsRange.new ..) (small_one (by decide) (by decide) (by omega) (by omega)) (n := n.toNat) (by rw [rangeSize_nat]; exact ar (.E (.u (.t (.s Z0 K0))) (.u (.t Z0))) 1 [] [_]) (by omega) λ h' tk acc c' k hD hacc => ?_
 obtain ⟨z1,z2⟩ := hacc
 refine new_list c (vs := acc.toList) ?_ (λ b o e => k b o (push_keep _ b o e)) ⟨c',by rw [Array.toArray_toList]; exact hD⟩ ?_ h
 · rw [Heap.size_push]; unfold Heap.get?; simp
 · have key : ∀ (k : Nat) (m : Nat) (vs : List Value),vs.length = k → (∀ j v,vs[j]? = some v → ∃ t,v = Value.int ((m + j : Nat) : Int) t) → vrels s.heap (foot H) ((List.range' m k).map λ (i : Nat) => AV.int (i : Int)) vs := by
     intro k
     induction k with
     | zero => intro m vs h _; rw [List.eq_nil_of_length_eq_zero h]; exact rfl
     | succ k ih =>
       intro m vs h hv
       cases vs with
       | nil => cases h
       | cons v r =>
         rw [List.range'_succ,List.map_cons]
         obtain ⟨t,ht⟩ := hv 0 v rfl
         refine ⟨v,r,rfl,⟨t,ht⟩,ih (m + 1) r (by simpa using h) λ j u hu => ?_⟩
         obtain ⟨t,ht⟩ := hv (j + 1) u (by simpa using hu)
         exact ⟨t,by rw [ht]; congr 2; exact ar (.e (.a N0 (.a N1 K1)) (.a (.a N0 K1) N1)) 2 [_,_] []⟩
   rw [List.range_eq_range']
   refine key n.toNat 0 acc.toList (by rw [Array.length_toList]; exact z1) λ j v hv => ?_
   obtain ⟨t,ht⟩ := z2 j v (by rw [← Array.getElem?_toList]; exact hv)
   exact ⟨t,by rw [ht]; congr 1; omega⟩
theorem intsAre_rel {h : Heap} {P : Addr → Prop} : ∀ {vs : List Value} {ns : List Int},IntsAre vs ns → vrels h P (ns.map AV.int) vs
 | _,_,IntsAre.nil => rfl
 | _,_,IntsAre.cons n t r => ⟨_,_,rfl,⟨t,rfl⟩,intsAre_rel r⟩
theorem intsAre_mk : ∀ {ns : List Int} {vs : List Value},vs.length = ns.length → (∀ (j : Nat) (v : Value) (n : Int),vs[j]? = some v → ns[j]? = some n → ∃ t,v = Value.int n t) → IntsAre vs ns
 | [],vs,e,_ => by rw [List.eq_nil_of_length_eq_zero e]; exact .nil
 | n :: ns,[],e,_ => by cases e
 | n :: ns,v :: vs,e,h => by
   obtain ⟨t,ht⟩ := h 0 v n rfl rfl
   subst ht
   exact .cons n t (intsAre_mk (by simpa using e) λ j u m h1 h2 => h (j + 1) u m (by simpa using h1) (by simpa using h2))
theorem intKeys_asc {es : List (Int × AV)} (h : intKeys es = true) : (es.map (·.1)).Pairwise (· ≤ ·) ∧ es.length ≤ 2 := by
 rcases es with _ | ⟨p,_ | ⟨q,_ | ⟨_,_⟩⟩⟩
 · exact ⟨by simp,by simp⟩
 · exact ⟨by simp,by simp⟩
 · replace h := of_decide_eq_true (show decide (p.1 < q.1) = true from h); exact ⟨by simp; exact (ar (.i (.T Z0 Z1) (.L Z0 Z1)) 2 [] [_,_]) h,by simp⟩
 · exact ft h
theorem sorted_ok {K : Frag} (S : Stat K base) (hh : A.handled = none) (c : Conc prog w base H s.heap) {d : Addr} {es : List (Int × AV)} (hd : H d = some (.idict es)) (hk : intKeys es = true) (h : fresh H (.list (es.map λ p => AV.int p.1)) Q) :
   wpAny (model prog w) A (call (.builtin "sorted") [.ref d]) (EP prog w vrel base s H Q) E s := by
 obtain ⟨kvs,D,r⟩ := c.obj d _ hd
 obtain ⟨ep,hat⟩ := D.dictAt
 obtain ⟨k1,k2⟩ := intKeys_asc hk
 have hl := drel_len r
 refine call_function_entry kind_sorted plain_sorted entry_sorted (args_sorted1 _) ?_
 unfold Builtin.«sorted»
 refine wpAny_bind (m := checkCount "sorted" 1 1 _) (wpAny_pure ?_)
 refine wpAny_bind (kdu_collect (A := A.in1) (kdl_dict (knd := intKind prog w) (kvs := kvs) (ep := ep) (not_mods S c hd)) hh hat (by rw [sizeLine_eq]; exact (ar (.i (.e N0 N1) (.i (.l N1 K2) (.l N0 (.k 16777216)))) 2 [_,_] []) hl k2) λ h' tk acc hk' hacc => ?_)
 have hlen : acc.toList.length = kvs.length := by rw [Array.length_toList]; exact hacc.1
 have hI : IntsAre acc.toList (es.map (·.1)) := by
   refine intsAre_mk (by rw [hlen,hl]; simp) λ j v n h1 h2 => ?_
   obtain ⟨k,x,e1,e2⟩ := hacc.2 j v (by rw [← Array.getElem?_toList]; exact h1)
   rw [← drel_keys r,List.getElem?_map,e1] at h2
   cases h2
   exact Value.isInt_shape e2
 refine wpAny_bind (wpAny_newList ?_ (by rw [hlen,sizeLine_eq]; exact (ar (.i (.e N0 N1) (.i (.l N1 K2) (.l N0 (.k 16777216)))) 2 [_,_] []) hl k2))
 have ho : (h'.push { cls := .type "list",data := .seq acc.toList.toArray }).get? h'.objs.size = some (seqObj "list" acc.toList.toArray 0) := Heap.get?_push_size _ rfl
 have key : wpAny (model prog w) A.in1 (call (.builtin "list.sort") [.ref h'.objs.size]) (λ _ s' => EP prog w vrel base s H Q (.ref h'.objs.size) s') E { s with heap := h'.push { cls := .type "list",data := .seq acc.toList.toArray },toks := tk } := by
   refine wpAny_call_entry PyProof.Rows.slot_list_sort ⟨_,ho,rfl⟩ PyProof.Rows.entry_list_sort
     (list_sort_tree (n := 0) (vs := acc.toList) ho hI (by rw [hlen,hl]; exact (ar (.i (.l N0 K2) (.t N0 (.k 64))) 1 [_] []) k2) λ out ns' hI' hp hP => ⟨.none,rfl, ?_⟩) (PyProof.Rows.args_list_sort _)
   have hns : ns' = es.map (·.1) := lks_uniq hp hP k1
   subst hns
   obtain ⟨e,he⟩ := sortedHeap_at (vs := acc.toList) (out := out) ho
   have none' : s.heap.get? h'.objs.size = none := by
     cases q : s.heap.get? h'.objs.size with
     | none => rfl
     | some o => exact absurd (Heap.lt_size (hk' _ _ q)) (Nat.lt_irrefl _)
   have hm : (es.map λ p => AV.int p.1) = (es.map (·.1)).map AV.int := by simp
   rw [hm] at h
   refine new_list c (vs := out.toList) none' (λ b o eb => ?_) ⟨e,by rw [Array.toArray_toList]; exact he⟩ (intsAre_rel hI') h
   have hb := hk' _ _ eb
   have lt := Heap.lt_size hb
   exact (sortedHeap_old (Nat.ne_of_lt lt) (by rw [Heap.size_push]; exact Nat.lt_succ_of_lt lt)).trans (push_keep _ _ _ hb)
 refine wpAny_bind (wpAny_holding (wpAny_mono key (λ _ s' x => ?_) λ _ _ e => e))
 exact wpAny_pure ⟨_,rfl,x⟩
end

end P_S8

section P_S9
open PySem PySem.W PySem.Calls PyProof.Rows PySem.SeqAt

noncomputable def RC (prog : Program) (w : World) (base : Heap) (n : Nat) (f : Fn) (args : List AV) (H : AHeap) (Q : AV → AHeap → Prop) : Prop :=
 ∀ (A : Around) (s : Shared) (vs : List Value),Rc A n → Conc prog w base H s.heap → vrels s.heap (foot H) args vs →
   codeAny (model prog w) A (.call (.ref (fAddr f)) ⟨vs,[]⟩) (λ r s' => ∃ v,r = .ok (.ret v) ∧ EP prog w vrel base s H Q v s') s
noncomputable def SE (prog : Program) (w : World) (base : Heap) (n k : Nat) (sc : Sco) (e : PySem.Expr) (m : ME) : Prop :=
 ∀ {A : Around} {E : Value → Shared → Prop} {env : Env} {ρ : Locals} {H : AHeap} {s : Shared} {Q : AV → AHeap → Prop},Re A n k → Conc prog w base H s.heap → FrameRel env sc ρ H s.heap →
   mE (RC prog w base n) m ρ H Q → wpAny (model prog w) A (eval e env) (EP prog w vrel base s H Q) E s
noncomputable def ST (prog : Program) (w : World) (base : Heap) (n k : Nat) (sc : Sco) (e : PySem.Expr) (m : ME) : Prop :=
 ∀ {A : Around} {E : Value → Shared → Prop} {env : Env} {ρ : Locals} {H : AHeap} {s : Shared} {Q : Bool → AHeap → Prop},Re A n k → Conc prog w base H s.heap → FrameRel env sc ρ H s.heap →
   mT (RC prog w base n) m (mE (RC prog w base n) m ρ H) ρ H Q → wpAny (model prog w) A (isTrue e env (eval e env)) (EP prog w eqr base s H Q) E s
section
variable {prog : Program} {w : World} {K : Frag} {base : Heap} {A : Around} {E : Value → Shared → Prop} {s : Shared} {H : AHeap} {env : Env} {sc : Sco} {ρ : Locals} {n k : Nat} {Q : AV → AHeap → Prop}
theorem vrels_step {H H₁ : AHeap} {h h₁ : Heap} (st : Step noX H h H₁ h₁) {xs : List AV} {vs : List Value} (r : vrels h (foot H) xs vs) : vrels h₁ (foot H₁) xs vs := vrels_mono st.mono r
theorem vrel_step {H H₁ : AHeap} {h h₁ : Heap} (st : Step noX H h H₁ h₁) {x : AV} {v : Value} (r : vrel h (foot H) x v) : vrel h₁ (foot H₁) x v := vrel_mono st.mono r
noncomputable def noStars (as : List PySem.Expr) : Bool := as.all λ e => !Nat.beq e.ctorIdx 22
theorem starEach_cons {e : PySem.Expr} {as : List PySem.Expr} (h : noStars (e :: as) = true) : starEach (e :: as) env = (false,eval e env) :: starEach as env ∧ noStars as = true := by
 unfold noStars at h
 rw [List.all_cons,Bool.and_eq_true] at h
 refine ⟨?_,h.2⟩
 cases e <;> first | rfl | cases h.1
theorem noStars_plain {as : List PySem.Expr} : noStars as = true → ∀ {pos : Pos},(backTo pos (starEach as env)).any (·.1) = false := by
 induction as with
 | nil => intro _ _; rfl
 | cons e r ih =>
   intro h pos
   obtain ⟨h1,h2⟩ := starEach_cons (env := env) h
   rw [h1]
   refine (?_ : (false || (backTo pos (starEach r env)).any (·.1)) = false)
   rw [ih h2]; rfl
noncomputable def vrelsN (m : Nat) (h : Heap) (P : Addr → Prop) (xs : List AV) (vs : List Value) : Prop := vrels h P xs vs ∧ vs.length = m
theorem args_ok {pos : Pos} : ∀ {as : List PySem.Expr} {H : AHeap} {s : Shared} {Q : List AV → AHeap → Prop},noStars as = true → (∀ e ∈ as,SE prog w base n k sc e (cE k sc e)) → Re A n k → Conc prog w base H s.heap → FrameRel env sc ρ H s.heap →
   mEs (RC prog w base n) (as.map (cE k sc)) ρ H Q → wpAny (model prog w) A (spliced (backTo pos (starEach as env))) (EP prog w (vrelsN as.length) base s H Q) E s
 | [],_,_,_,_,_,_,c,_,h => wpAny_items_nil (EP.here c ⟨vrels_nil,rfl⟩ h)
 | e :: as,_,s,_,hp,ih,R,c,F,h => by
   obtain ⟨h1,h2⟩ := starEach_cons (env := env) hp
   refine wpAny_items_cons (monoP (ih e (.head _) R c F h) λ a b H₁ h₁ tk c₁ st r q => ?_) h1
   exact wpAny_mono (args_ok (s := { s with heap := h₁,toks := tk }) h2 (λ e he => ih e (.tail _ he)) R c₁ (F.step st) q) (λ vs s' z => by
     obtain ⟨xs,H₂,h₂,tk₂,e₂,c₂,st₂,r₂,q₂⟩ := z
     subst e₂
     exact ⟨a :: xs,H₂,h₂,tk₂,rfl,c₂,st.trans st₂,⟨vrels_cons (vrel_step st₂ r) r₂.1,by rw [List.length_cons,r₂.2]; rfl⟩,q₂⟩) λ _ _ x => x
end

end P_S9

section P_S10
open PySem PySem.W PySem.Calls PyProof.Rows PySem.SeqAt

section
variable {prog : Program} {w : World} {K : Frag} {base : Heap} {A : Around} {E : Value → Shared → Prop} {s : Shared} {H : AHeap} {env : Env} {sc : Sco} {ρ : Locals} {n k : Nat} {Q : AV → AHeap → Prop}
theorem thenP {α β γ δ : Type} {M : Model} {rel : Heap → (Addr → Prop) → α → β → Prop} {rel₂ : Heap → (Addr → Prop) → γ → δ → Prop} {Q₁ : α → AHeap → Prop} {Q₂ : γ → AHeap → Prop} {t₁ : Sem β} {t₂ : β → Sem δ}
   (h1 : wpAny M A t₁ (EP prog w rel base s H Q₁) E s)
   (h2 : ∀ a b H₁ h₁ tk,Conc prog w base H₁ h₁ → Step noX H s.heap H₁ h₁ → rel h₁ (foot H₁) a b → Q₁ a H₁ → wpAny M A (t₂ b) (EP prog w rel₂ base { s with heap := h₁,toks := tk } H₁ Q₂) E { s with heap := h₁,toks := tk }) :
   wpAny M A t₁ (λ b s₁ => wpAny M A (t₂ b) (EP prog w rel₂ base s H Q₂) E s₁) E s := bindP h1 h2
theorem noSuper_base {o : PySem.Expr} {name : Str} {whole : Sem Value} (h : noSuper o = true) : attributeBase o name env whole = whole := by
 cases o <;> try rfl
 rename_i f as kws pos
 cases f <;> first | rfl | exact ft h
theorem se_const (c : Const) (kd : Nat) (pos : Pos) : SE prog w base n (k + 1) sc (.Constant c kd pos) (cE (k + 1) sc (.Constant c kd pos)) := by
 intro A E env ρ H s Q R c' F h
 cases c <;> first | exact h.elim | skip
 case none => exact wpAny_Constant_none (EP.here c' vrel_none h)
 case bool => exact wpAny_Constant_bool (EP.here c' vrel_bool h)
 case int => exact wpAny_Constant_int (EP.toks c' vrel_int h)
 case str x =>
   have e : cE (k + 1) sc (.Constant (.str x) kd pos) = (match syOf x with | some y => .str y | none => .stop) := rfl
   rw [e] at h
   cases q : syOf x with
   | none => simp only [q] at h; exact h.elim
   | some y =>
     simp only [q] at h
     have hx : x = y.str := by
       unfold syOf at q
       obtain ⟨p,hp,rfl⟩ := Option.map_eq_some_iff.mp q
       have h1 := List.mem_of_find?_eq_some hp
       have h2 := List.find?_some hp
       obtain ⟨s,_,rfl⟩ := List.mem_map.mp h1
       exact (by simpa using h2 : s.str = x).symm
     subst hx
     exact wpAny_Constant_str (EP.toks c' vrel_str h)
theorem se_name (S : Stat K base) (x : Str) (pos : Pos) : SE prog w base n (k + 1) sc (.Name x pos) (cE (k + 1) sc (.Name x pos)) := by
 intro A E env ρ H s Q R c F h
 have e : cE (k + 1) sc (.Name x pos) = (match sc.code x with | some i => .var i | none => if sc.kind x = some .globalImplicit ∧ gl x = .bnd then .bnd else .stop) := rfl
 rw [e] at h
 cases q : sc.code x with
 | some i =>
   simp only [q] at h
   have h : (match ρ i with | some v => Q v H | none => False) := h
   cases z : ρ i with
   | none => simp only [z] at h
   | some a => simp only [z] at h; exact name_var c F q z h
 | none =>
   simp only [q] at h
   split at h
   · rename_i z; exact name_bnd S c F z.1 z.2 h
   · exact h.elim
theorem se_attr (S : Stat K base) {v : PySem.Expr} (x : Str) (pos : Pos) (ih : SE prog w base n k sc v (cE k sc v)) : SE prog w base n (k + 1) sc (.Attribute v x pos) (cE (k + 1) sc (.Attribute v x pos)) := by
 intro A E env ρ H s Q R c F h
 have e : cE (k + 1) sc (.Attribute v x pos) = if noSuper v then (match atOf x with | some a => .attr (cE k sc v) a | none => .stop) else .stop := rfl
 rw [e] at h
 split at h
 · rename_i hs
   cases q : atOf x with
   | none => simp only [q] at h; exact h.elim
   | some a =>
     simp only [q] at h
     have hx : x = nm a := by
       unfold atOf at q
       obtain ⟨p,hp,rfl⟩ := Option.map_eq_some_iff.mp q
       have h1 := List.mem_of_find?_eq_some hp
       have h2 := List.find?_some hp
       obtain ⟨s,_,rfl⟩ := List.mem_map.mp h1
       exact (by simpa using h2 : nm s.1 = x).symm
     subst hx
     rw [arm_eval_Attribute,noSuper_base hs]
     refine wpAny_bind (wpAny_mono (thenP (t₂ := λ o => do standAt pos.atName; let r ← holding [o] (getAttr o (nm a) true); letTemporaryGo v o r; pure r) (ih R.less c F h) λ b v' H₁ h₁ tk c₁ st r q => ?_) (λ _ _ x => x) λ _ _ x => x)
     refine wpAny_bind (wpAny_standAt ?_)
     cases b <;> first | exact q.elim | skip
     rename_i y
     cases r
     have q : (match H₁ y with | some (.inst C _ _ F) => isField C a = true ∧ (match F a with | some u => Q u H₁ | none => False) | _ => False) := q
     cases hy : H₁ y with
     | none => simp only [hy] at q
     | some oy =>
       simp only [hy] at q
       cases oy <;> first | exact q.elim | skip
       rename_i C kk d F'
       obtain ⟨q1,q2⟩ := q
       cases z : F' a with
       | none => simp only [z] at q2
       | some u =>
         simp only [z] at q2
         refine wpAny_bind (wpAny_holding (wpAny_mono (get_field (s := { s with heap := h₁,toks := tk }) S c₁ hy q1 z q2) (λ r s' p => ?_) λ _ _ x => x))
         exact wpAny_bind (wpAny_letTemporaryGo (wpAny_pure p))
 · exact h.elim
theorem se_bin {l r : PySem.Expr} (op : Operator) (pos : Pos) (il : SE prog w base n k sc l (cE k sc l)) (ir : SE prog w base n k sc r (cE k sc r)) : SE prog w base n (k + 1) sc (.BinOp l op r pos) (cE (k + 1) sc (.BinOp l op r pos)) := by
 intro A E env ρ H s Q R c F h
 have e : cE (k + 1) sc (.BinOp l op r pos) = (match cBop op with | some o => .bin o (cE k sc l) (cE k sc r) | none => .stop) := rfl
 rw [e] at h
 cases q : cBop op with
 | none => simp only [q] at h; exact h.elim
 | some o =>
   simp only [q] at h
   refine wpAny_BinOp (monoP (il R.less c F h) λ a x H₁ h₁ tk c₁ st r₁ q₁ => ?_)
   refine monoP (ir (s := { s with heap := h₁,toks := tk }) R.less c₁ (F.step st) q₁) λ b y H₂ h₂ tk₂ c₂ st₂ r₂ q₂ => ?_
   exact wpAny_mono (bin_ok (s := { s with heap := h₂,toks := tk₂ }) c₂ q q₂ (vrel_step st₂ r₁) r₂) (λ _ _ p => EP.chain (s := s) (st.trans st₂) p) λ _ _ x => x
theorem se_unop {x : PySem.Expr} (op : UnaryOp) (pos : Pos) (ih : SE prog w base n k sc x (cE k sc x)) : SE prog w base n (k + 1) sc (.UnaryOp op x pos) (cE (k + 1) sc (.UnaryOp op x pos)) := by
 intro A E env ρ H s Q R c F h
 cases op <;> first | exact h.elim | skip
 refine wpAny_UnaryOp (monoP (ih R.less c F h) λ a v H₁ h₁ tk c₁ st r₁ q₁ => ?_)
 cases a <;> first | exact q₁.elim | skip
 exact wpAny_mono (neg_ok (s := { s with heap := h₁,toks := tk }) c₁ q₁ r₁) (λ _ _ p => EP.chain (s := s) st p) λ _ _ x => x
end

end P_S10

section P_S11
open PySem PySem.W PySem.Calls PyProof.Rows PySem.SeqAt

section
variable {prog : Program} {w : World} {K : Frag} {base : Heap} {A : Around} {E : Value → Shared → Prop} {s : Shared} {H : AHeap} {env : Env} {sc : Sco} {ρ : Locals} {n k : Nat} {Q : AV → AHeap → Prop}
theorem wpAny_release_ {M : Model} {vs keep : List Value} {Q : Unit → Shared → Prop} (h : Q () s) : wpAny M A (release vs keep) Q E s := λ Γ p _ => by rw [Sem.wp_release]; exact h
theorem se_cmp (S : Stat K base) {l r : PySem.Expr} (op : CmpOp) (pos : Pos) (il : SE prog w base n k sc l (cE k sc l)) (ir : SE prog w base n k sc r (cE k sc r)) :
   SE prog w base n (k + 1) sc (.Compare l [op] [r] pos) (cE (k + 1) sc (.Compare l [op] [r] pos)) ∧ ST prog w base n (k + 1) sc (.Compare l [op] [r] pos) (cE (k + 1) sc (.Compare l [op] [r] pos)) := by
 have e : cE (k + 1) sc (.Compare l [op] [r] pos) = (match cCop op with | some o => if behindInMarks op r then .stop else .cmp o (cE k sc l) (cE k sc r) | none => .stop) := rfl
 rw [e]
 cases q : cCop op with
 | none => exact ⟨λ _ _ _ h => h.elim,λ _ _ _ h => h.elim⟩
 | some o =>
   simp only []
   by_cases z : behindInMarks op r = true
   · rw [if_pos z]; exact ⟨λ _ _ _ h => h.elim,λ _ _ _ h => h.elim⟩
   · rw [if_neg z]
     have z : behindInMarks op r = false := by simpa using z
     refine ⟨λ {A E env ρ H s Q} R c F h => ?_,λ {A E env ρ H s Q} R c F h => ?_⟩
     · refine wpAny_Compare1 (monoP (il R.less c F h) λ a x H₁ h₁ tk c₁ st r₁ q₁ => ?_) z
       refine monoP (ir (s := { s with heap := h₁,toks := tk }) R.less c₁ (F.step st) q₁) λ b y H₂ h₂ tk₂ c₂ st₂ r₂ q₂ => ?_
       cases t : cmpv H₂ o a b with
       | none => simp only [t] at q₂
       | some u =>
         simp only [t] at q₂
         exact wpAny_mono (cmp_ok (s := { s with heap := h₂,toks := tk₂ }) S c₂ q t (vrel_step st₂ r₁) r₂ R.lt5 q₂) (λ _ _ p => EP.chain (s := s) (st.trans st₂) p.2) λ _ _ x => x
     · refine wpAny_isTrue_Compare1 (monoP (il R.less c F h) λ a x H₁ h₁ tk c₁ st r₁ q₁ => ?_) z
       refine monoP (ir (s := { s with heap := h₁,toks := tk }) R.less c₁ (F.step st) q₁) λ b y H₂ h₂ tk₂ c₂ st₂ r₂ q₂ => ?_
       cases t : cmpv H₂ o a b with
       | none => simp only [t] at q₂
       | some u =>
         simp only [t] at q₂
         refine wpAny_mono (cmp_ok (s := { s with heap := h₂,toks := tk₂ }) (Q := λ v H' => v = .bool u ∧ Q u H') S c₂ q t (vrel_step st₂ r₁) r₂ R.lt5 ⟨rfl,q₂⟩) (λ v s' p => ?_) λ _ _ x => x
         obtain ⟨rfl,a',H₃,h₃,tk₃,e₃,c₃,st₃,r₃,q₃,q₄⟩ := p
         subst e₃
         exact wpAny_truthy_bool ⟨u,H₃,h₃,tk₃,rfl,c₃,(st.trans st₂).trans st₃,rfl,q₄⟩
theorem marked2 {o₁ o₂ : CmpOp} {b c : PySem.Expr} (z : behindInMarks o₂ c = false) : markedEach [o₁,o₂] [b,c] (evalEach [b,c] env) = [eval b env,eval c env] := by
 refine (?_ : [eval b env,markedBehindIn o₂ c (eval c env)] = _)
 unfold markedBehindIn; rw [z]
theorem st_chain (S : Stat K base) {a b c : PySem.Expr} (o₁ o₂ : CmpOp) (pos : Pos) (ia : SE prog w base n k sc a (cE k sc a)) (ib : SE prog w base n k sc b (cE k sc b)) (ic : SE prog w base n k sc c (cE k sc c)) :
   SE prog w base n (k + 1) sc (.Compare a [o₁,o₂] [b,c] pos) (cE (k + 1) sc (.Compare a [o₁,o₂] [b,c] pos)) ∧ ST prog w base n (k + 1) sc (.Compare a [o₁,o₂] [b,c] pos) (cE (k + 1) sc (.Compare a [o₁,o₂] [b,c] pos)) := by
 have e : cE (k + 1) sc (.Compare a [o₁,o₂] [b,c] pos) = (match cCop o₁,cCop o₂ with | some p,some q => if behindInMarks o₂ c then .stop else .chain (cE k sc a) p (cE k sc b) q (cE k sc c) | _,_ => .stop) := rfl
 rw [e]
 cases q : cCop o₁ with
 | none => exact ⟨λ _ _ _ h => h.elim,λ _ _ _ h => h.elim⟩
 | some p₁ =>
   cases q' : cCop o₂ with
   | none => exact ⟨λ _ _ _ h => h.elim,λ _ _ _ h => h.elim⟩
   | some p₂ =>
     simp only []
     by_cases z : behindInMarks o₂ c = true
     · rw [if_pos z]; exact ⟨λ _ _ _ h => h.elim,λ _ _ _ h => h.elim⟩
     · rw [if_neg z]
       have z : behindInMarks o₂ c = false := by simpa using z
       refine ⟨λ _ _ _ h => h.elim,λ {A E env ρ H s Q} R cc F h => ?_⟩
       rw [arm_isTrue_Compare,marked2 z]
       refine wpAny_bind (monoP (ia R.less cc F h) λ u x H₁ h₁ tk c₁ st r₁ q₁ => ?_)
       refine (?_ : wpAny _ _ (do let rv ← holding [x] (eval b env); standAt pos; let c' ← holding [x,rv] (compareOp o₁ x rv); release [x,rv] [c']; if ← holding [c',rv] (truthy c') then testChain pos rv [o₂] [eval c env] else pure false) _ _ _)
       refine wpAny_bind (wpAny_holding (monoP (ib (s := { s with heap := h₁,toks := tk }) R.less c₁ (F.step st) q₁) λ v y H₂ h₂ tk₂ c₂ st₂ r₂ q₂ => ?_))
       refine wpAny_bind (wpAny_standAt ?_)
       cases t : cmpv H₂ p₁ u v with
       | none => simp only [t] at q₂
       | some bb =>
         simp only [t] at q₂
         refine wpAny_bind (wpAny_holding (wpAny_mono (cmp_ok (s := { s with heap := h₂,toks := tk₂ }) (Q := λ _ H' => H' = H₂) S c₂ q t (vrel_step st₂ r₁) r₂ R.lt5 rfl) (λ c' s' p => ?_) λ _ _ x => x))
         obtain ⟨rfl,a',H₃,h₃,tk₃,e₃,c₃,st₃,r₃,q₃⟩ := p
         subst e₃ q₃
         refine wpAny_bind (wpAny_release_ (wpAny_bind (wpAny_holding (wpAny_truthy_bool ?_))))
         cases bb with
         | false =>
           exact wpAny_pure ⟨false,_,h₃,tk₃,rfl,c₃,(st.trans st₂).trans st₃,rfl,q₂⟩
         | true =>
           refine (?_ : wpAny _ _ (do let rv ← holding [y] (eval c env); standAt pos; let c' ← operate [y,rv] (compareOp o₂ y rv); holding [c'] (truthy c')) _ _ _)
           refine wpAny_bind (wpAny_holding (monoP (ic (s := { s with heap := h₃,toks := tk₃ }) R.less c₃ (F.step ((st.trans st₂).trans st₃)) q₂) λ d t' H₄ h₄ tk₄ c₄ st₄ r₄ q₄ => ?_))
           refine wpAny_bind (wpAny_standAt ?_)
           cases tt : cmpv H₄ p₂ v d with
           | none => simp only [tt] at q₄
           | some b2 =>
             simp only [tt] at q₄
             refine wpAny_bind (wpAny_operating (wpAny_mono (cmp_ok (s := { s with heap := h₄,toks := tk₄ }) (Q := λ _ H' => Q b2 H') S c₄ q' tt (vrel_step (st₃.trans st₄) r₂) r₄ R.lt5 q₄) (λ c' s' p => ?_) λ _ _ x => x))
             obtain ⟨rfl,a',H₅,h₅,tk₅,e₅,c₅,st₅,r₅,q₅⟩ := p
             subst e₅
             exact wpAny_holding (wpAny_truthy_bool ⟨b2,H₅,h₅,tk₅,rfl,c₅,((st.trans st₂).trans st₃).trans (st₄.trans st₅),rfl,q₅⟩)
end

end P_S11

section P_S12
open PySem PySem.W PySem.Calls PyProof.Rows PySem.SeqAt

section
variable {prog : Program} {w : World} {K : Frag} {base : Heap} {A : Around} {E : Value → Shared → Prop} {s : Shared} {H : AHeap} {env : Env} {sc : Sco} {ρ : Locals} {n k : Nat} {Q : AV → AHeap → Prop}
theorem boolOp_ok {op : BoolOp} {isAnd : Bool} (ho : (isAnd = true ∧ op = .And) ∨ (isAnd = false ∧ op = .Or)) {pos : Pos} : ∀ {vs : List PySem.Expr} {H : AHeap} {s : Shared} {Q : AV → AHeap → Prop},(∀ e ∈ vs,SE prog w base n k sc e (cE k sc e)) → Re A n k → Conc prog w base H s.heap → FrameRel env sc ρ H s.heap →
   mBool (RC prog w base n) isAnd (vs.map (cE k sc)) ρ H Q → wpAny (model prog w) A (boolOp pos op (evalEach vs env)) (EP prog w vrel base s H Q) E s
 | [],_,_,_,_,_,_,_,h => h.elim
 | [e],H,s,Q,ih,R,c,F,h => by
   refine (?_ : wpAny _ _ (eval e env) _ _ _)
   refine wpAny_mono (ih e (.head _) R c F (H := H) (Q := λ v H' => (match v with | .bool b => Q (.bool b) H' | _ => False)) ?_) (λ v s' p => ?_) λ _ _ x => x
   · have h : mE (RC prog w base n) (cE k sc e) ρ H λ v H' => (match v with | .bool b => if (([] : List ME).isEmpty || b != isAnd) = true then Q (.bool b) H' else mBool (RC prog w base n) isAnd [] ρ H' Q | _ => False) := h
     simpa using h
   · obtain ⟨a,H₁,h₁,tk,rfl,c₁,st,r,q⟩ := p
     cases a <;> first | exact q.elim | skip
     exact ⟨_,H₁,h₁,tk,rfl,c₁,st,r,q⟩
 | e :: f :: es,H,s,Q,ih,R,c,F,h => by
   refine (?_ : wpAny _ _ (do let v ← eval e env; standAt pos; let t ← holding [v] (truthy v); match op,t with | .And,false | .Or,true => pure v | _,_ => boolOp pos op (evalEach (f :: es) env)) _ _ _)
   refine wpAny_bind (monoP (ih e (.head _) R c F h) λ a v H₁ h₁ tk c₁ st r q => ?_)
   cases a <;> first | exact q.elim | skip
   rename_i b
   cases r
   refine wpAny_bind (wpAny_standAt (wpAny_bind (wpAny_holding (wpAny_truthy_bool ?_))))
   have q : if (((f :: es).map (cE k sc)).isEmpty || b != isAnd) = true then Q (.bool b) H₁ else mBool (RC prog w base n) isAnd ((f :: es).map (cE k sc)) ρ H₁ Q := q
   simp only [List.map_cons,List.isEmpty_cons,Bool.false_or] at q
   have fin : Q (.bool b) H₁ → EP prog w vrel base s H Q (.bool b) { s with heap := h₁,toks := tk } := λ q => ⟨_,H₁,h₁,tk,rfl,c₁,st,vrel_bool,q⟩
   have go : mBool (RC prog w base n) isAnd ((f :: es).map (cE k sc)) ρ H₁ Q → wpAny (model prog w) A (boolOp pos op (evalEach (f :: es) env)) (EP prog w vrel base s H Q) E { s with heap := h₁,toks := tk } := λ q =>
     wpAny_mono (boolOp_ok ho (s := { s with heap := h₁,toks := tk }) (λ e he => ih e (.tail _ he)) R c₁ (F.step st) q) (λ _ _ p => EP.chain (s := s) st p) λ _ _ x => x
   rcases ho with ⟨rfl,rfl⟩ | ⟨rfl,rfl⟩ <;> cases b
   · exact wpAny_pure (fin (by simpa using q))
   · exact go (by simpa using q)
   · exact go (by simpa using q)
   · exact wpAny_pure (fin (by simpa using q))
theorem allTrue_ok {op : BoolOp} {isAnd : Bool} (ho : (isAnd = true ∧ op = .And) ∨ (isAnd = false ∧ op = .Or)) : ∀ {vs : List PySem.Expr} {H : AHeap} {s : Shared} {Q : Bool → AHeap → Prop},(∀ e ∈ vs,ST prog w base n k sc e (cE k sc e)) → Re A n k → Conc prog w base H s.heap → FrameRel env sc ρ H s.heap →
   mAll (RC prog w base n) isAnd (vs.map (cE k sc)) ρ H Q → wpAny (model prog w) A (allTrue op vs env) (EP prog w eqr base s H Q) E s
 | [],H,s,Q,_,_,c,_,h => by
   have h : Q isAnd H := h
   rcases ho with ⟨rfl,rfl⟩ | ⟨rfl,rfl⟩
   · exact wpAny_allTrue_And_nil (EP.here c rfl h)
   · exact wpAny_allTrue_Or_nil (EP.here c rfl h)
 | e :: es,H,s,Q,ih,R,c,F,h => by
   have key := ih e (.head _) R c F (E := E) (Q := λ b H' => (b = isAnd → mAll (RC prog w base n) isAnd (es.map (cE k sc)) ρ H' Q) ∧ (b = !isAnd → Q b H')) h
   rcases ho with ⟨rfl,rfl⟩ | ⟨rfl,rfl⟩
   · refine wpAny_allTrue_And_cons (monoP key λ a b H₁ h₁ tk c₁ st r q => ?_)
     cases r
     cases a
     · exact ⟨false,H₁,h₁,tk,rfl,c₁,st,rfl,q.2 rfl⟩
     · exact wpAny_mono (allTrue_ok (.inl ⟨rfl,rfl⟩) (s := { s with heap := h₁,toks := tk }) (λ e he => ih e (.tail _ he)) R c₁ (F.step st) (q.1 rfl)) (λ _ _ p => EP.chain (s := s) st p) λ _ _ x => x
   · refine wpAny_allTrue_Or_cons (monoP key λ a b H₁ h₁ tk c₁ st r q => ?_)
     cases r
     cases a
     · exact wpAny_mono (allTrue_ok (.inr ⟨rfl,rfl⟩) (s := { s with heap := h₁,toks := tk }) (λ e he => ih e (.tail _ he)) R c₁ (F.step st) (q.1 rfl)) (λ _ _ p => EP.chain (s := s) st p) λ _ _ x => x
     · exact ⟨true,H₁,h₁,tk,rfl,c₁,st,rfl,q.2 rfl⟩
theorem se_bool {op : BoolOp} {vs : List PySem.Expr} {pos : Pos} (ih : ∀ e ∈ vs,SE prog w base n k sc e (cE k sc e)) (it : ∀ e ∈ vs,ST prog w base n k sc e (cE k sc e)) :
   SE prog w base n (k + 1) sc (.BoolOp op vs pos) (cE (k + 1) sc (.BoolOp op vs pos)) ∧ ST prog w base n (k + 1) sc (.BoolOp op vs pos) (cE (k + 1) sc (.BoolOp op vs pos)) := by
 cases op
 · exact ⟨λ {A E env ρ H s Q} R c F h => boolOp_ok (.inl ⟨rfl,rfl⟩) ih R.less c F h,λ {A E env ρ H s Q} R c F h => wpAny_isTrue_BoolOp (allTrue_ok (.inl ⟨rfl,rfl⟩) it R.less c F h)⟩
 · exact ⟨λ {A E env ρ H s Q} R c F h => boolOp_ok (.inr ⟨rfl,rfl⟩) ih R.less c F h,λ {A E env ρ H s Q} R c F h => wpAny_isTrue_BoolOp (allTrue_ok (.inr ⟨rfl,rfl⟩) it R.less c F h)⟩
theorem st_not {x : PySem.Expr} {pos : Pos} (it : ST prog w base n k sc x (cE k sc x)) : ST prog w base n (k + 1) sc (.UnaryOp .Not x pos) (cE (k + 1) sc (.UnaryOp .Not x pos)) := λ {A E env ρ H s Q} R c F h =>
 wpAny_isTrue_Not (wpAny_mono (it R.less c F (Q := λ b H' => Q (!b) H') h) (λ b s' z => by obtain ⟨a,H₁,h₁,tk,e,c₁,st,r,q⟩ := z; cases r; exact ⟨!b,H₁,h₁,tk,e,c₁,st,rfl,q⟩) λ _ _ x => x)
theorem se_ife {t a b : PySem.Expr} {pos : Pos} (it : ST prog w base n k sc t (cE k sc t)) (ia : SE prog w base n k sc a (cE k sc a)) (ib : SE prog w base n k sc b (cE k sc b)) :
   SE prog w base n (k + 1) sc (.IfExp t a b pos) (cE (k + 1) sc (.IfExp t a b pos)) := λ {A E env ρ H s Q} R c F h => by
 refine wpAny_IfExp (monoP (it R.less c F h) λ u v H₁ h₁ tk c₁ st r q => ?_)
 cases r
 cases u
 · exact wpAny_mono (ib (s := { s with heap := h₁,toks := tk }) R.less c₁ (F.step st) (q.2 rfl)) (λ _ _ p => EP.chain (s := s) st p) λ _ _ x => x
 · exact wpAny_mono (ia (s := { s with heap := h₁,toks := tk }) R.less c₁ (F.step st) (q.1 rfl)) (λ _ _ p => EP.chain (s := s) st p) λ _ _ x => x
noncomputable def isPlainM : ME → Bool
 | .not _ | .and _ | .or _ | .ife .. | .chain .. => false
 | _ => true
theorem mT_plain {call} {m : ME} (h : isPlainM m = true) {whole : (AV → AHeap → Prop) → Prop} {Q : Bool → AHeap → Prop} (t : mT call m whole ρ H Q) : whole λ v H' => match v with | .bool b => Q b H' | _ => False := by
 cases m <;> first | exact t | cases h
theorem st_value {e : PySem.Expr} (hm : isPlainM (cE (k + 1) sc e) = true) (he : ∀ env whole,isTrue e env whole = (do let v ← whole; standAt e.pos; holding [v] (truthy v))) (ih : SE prog w base n (k + 1) sc e (cE (k + 1) sc e)) :
   ST prog w base n (k + 1) sc e (cE (k + 1) sc e) := λ {A E env ρ H s Q} R c F h => by
 refine wpAny_isTrue_value (monoP (ih R c F (mT_plain hm h)) λ a v H₁ h₁ tk c₁ st r q => ?_) (he _ _)
 cases a <;> first | exact q.elim | skip
 cases r
 exact wpAny_truthy_bool ⟨_,H₁,h₁,tk,rfl,c₁,st,rfl,q⟩
theorem idx_type (c : Conc prog w base H s.heap) {a b r : AV} {x : Value} (e : idxv H a b = some r) (p : vrel s.heap (foot H) a x) : ∃ T id,s.TypeIs x T ∧ typeLookup (.type T) "__getitem__" = pure (some (.builtin id)) := by
 cases a <;> cases b <;> first | exact nn e | exact ft e | (cases e; done) | skip
 case ref.int l k =>
   cases p
   unfold idxv at e
   cases hl : H l with
   | none => simp only [hl] at e; exact nn e
   | some ol =>
     simp only [hl] at e
     cases ol <;> first | exact nn e | exact ft e | (cases e; done) | skip
     · obtain ⟨vs,n,ho,rr,el⟩ := list_at c hl
       exact ⟨"list",_,⟨_,ho,rfl⟩,slot_list_getitem.lookup⟩
     · obtain ⟨kvs,D,rr⟩ := c.obj l _ hl
       exact ⟨"dict",_,D.mapOf.typeIs,slot_dict_getitem.lookup⟩
 case tup.int xs k =>
   obtain ⟨l,vs,rfl,_,⟨o,ho,hc,_⟩,rr⟩ := p
   exact ⟨"tuple",_,⟨_,ho,hc⟩,slot_tuple_getitem.lookup⟩
theorem seqAt_type (c : Conc prog w base H s.heap) {l : Addr} {xs : List AV} (e : seqAt H l = some xs) : s.TypeIs (.ref l) "list" := by
 obtain ⟨vs,⟨o,ho,hc,_⟩,_⟩ := seqAt_list c e
 exact ⟨o,ho,hc⟩
theorem se_idx {v i : PySem.Expr} {pos : Pos} (hs : ∀ o x,subscripted i false o x = operate [o,x] (getItem o x)) (he : cE (k + 1) sc (.Subscript v i pos) = .idx (cE k sc v) (cE k sc i)) (iv : SE prog w base n k sc v (cE k sc v)) (ii : SE prog w base n k sc i (cE k sc i)) :
   SE prog w base n (k + 1) sc (.Subscript v i pos) (cE (k + 1) sc (.Subscript v i pos)) := by
 rw [he]
 intro A E env ρ H s Q R c F h
 refine Subscript_ (monoP (iv R.less c F h) λ a x H₁ h₁ tk c₁ st r₁ q₁ => ?_)
 refine monoP (ii (s := { s with heap := h₁,toks := tk }) R.less c₁ (F.step st) q₁) λ b y H₂ h₂ tk₂ c₂ st₂ r₂ q₂ => ?_
 cases t : idxv H₂ a b with
 | none => simp only [t] at q₂
 | some u =>
   simp only [t] at q₂
   obtain ⟨T,id,hT,hl⟩ := idx_type (s := { s with heap := h₂,toks := tk₂ }) c₂ t (vrel_step st₂ r₁)
   exact tail_any (s := { s with heap := h₂,toks := tk₂ }) hT hl (wpAny_mono (idx_ok (s := { s with heap := h₂,toks := tk₂ }) c₂ t (vrel_step st₂ r₁) r₂ q₂) (λ _ _ p => EP.chain (s := s) (st.trans st₂) p) λ _ _ x => x) (hs _ _)
theorem part_ok {lo : Option PySem.Expr} (ih : ∀ e,lo = some e → SE prog w base n k sc e (cE k sc e)) {Q : Option AV → AHeap → Prop} (R : Re A n k) (c : Conc prog w base H s.heap) (F : FrameRel env sc ρ H s.heap) (h : mO (RC prog w base n) (lo.map (cE k sc)) ρ H Q) :
   wpAny (model prog w) A (evalPart lo env) (EP prog w (λ h P (a : Option AV) v => vrel h P (a.getD .none) v) base s H Q) E s := by
 cases lo with
 | none => exact wpAny_pure (EP.here (a := Option.none) c vrel_none h)
 | some e =>
   exact wpAny_mono (ih e rfl R c F h) (λ v s' z => by obtain ⟨a,H₁,h₁,tk,e,c₁,st,r,q⟩ := z; exact ⟨some a,H₁,h₁,tk,e,c₁,st,r,q⟩) λ _ _ x => x
theorem se_slice {v : PySem.Expr} {lo hi : Option PySem.Expr} {p pos : Pos} (iv : SE prog w base n k sc v (cE k sc v)) (il : ∀ e,lo = some e → SE prog w base n k sc e (cE k sc e)) (ih : ∀ e,hi = some e → SE prog w base n k sc e (cE k sc e)) :
   SE prog w base n (k + 1) sc (.Subscript v (.Slice lo hi none p) pos) (cE (k + 1) sc (.Subscript v (.Slice lo hi none p) pos)) := by
 intro A E env ρ H s Q R c F h
 refine Subscript_ (monoP (iv R.less c F h) λ a x H₁ h₁ tk c₁ st r₁ q₁ => wpAny_Slice ?_)
 refine monoP (part_ok (s := { s with heap := h₁,toks := tk }) il R.less c₁ (F.step st) q₁) λ l vl H₂ h₂ tk₂ c₂ st₂ r₂ q₂ => ?_
 refine monoP (part_ok (s := { s with heap := h₂,toks := tk₂ }) ih R.less c₂ (F.step (st.trans st₂)) q₂) λ u vu H₃ h₃ tk₃ c₃ st₃ r₃ q₃ => ?_
 rw [evalPart_none]
 refine wpAny_pure ?_
 cases a <;> first | exact q₃.elim | skip
 rename_i l₀
 cases r₁
 cases t1 : partOk l with
 | none => simp only [t1] at q₃
 | some ll =>
   cases t2 : partOk u with
   | none => simp only [t1,t2] at q₃
   | some uu =>
     simp only [t1,t2] at q₃
     cases t3 : seqAt H₃ l₀ with
     | none => simp only [t3] at q₃
     | some xs =>
       simp only [t3] at q₃
       obtain ⟨q₃,q₄⟩ := q₃
       obtain ⟨e1,p1⟩ := part_rel (h := h₃) (P := foot H₃) t1
       obtain ⟨e2,p2⟩ := part_rel (h := h₃) (P := foot H₃) t2
       have r₂ : vrel h₃ (foot H₃) (partV ll) vl := e1 ▸ vrel_step st₃ r₂
       have r₃ : vrel h₃ (foot H₃) (partV uu) vu := e2 ▸ r₃
       have cc := slice_ok (A := A) (E := E) (s := { s with heap := h₃,toks := tk₃ }) c₃ t3 p1 p2 q₃ r₂ r₃ q₄
       obtain ⟨c₃',_⟩ := c₃.grown (push_keep { cls := .type "slice",data := .fields #[vl,vu,.none] })
       exact tail_any (seqAt_type (s := { s with heap := h₃.push { cls := .type "slice",data := .fields #[vl,vu,.none] },toks := tk₃ }) c₃' t3) slot_list_getitem.lookup (wpAny_mono cc (λ _ _ p => EP.chain (s := s) ((st.trans st₂).trans st₃) p) λ _ _ x => x) rfl
end

end P_S12

section P_S13
open PySem PySem.W PySem.Calls PyProof.Rows PySem.SeqAt

section
variable {prog : Program} {w : World} {K : Frag} {base : Heap} {A : Around} {E : Value → Shared → Prop} {s : Shared} {H : AHeap} {env : Env} {sc : Sco} {ρ : Locals} {n k : Nat} {Q : AV → AHeap → Prop}
theorem se_rev {v : PySem.Expr} {p pos p1 p2 : Pos} {x1 : Nat} (iv : SE prog w base n k sc v (cE k sc v)) :
   SE prog w base n (k + 1) sc (.Subscript v (.Slice none none (some (.UnaryOp .USub (.Constant (.int 1) x1 p1) p2)) p) pos) (.rev (cE k sc v)) := by
 intro A E env ρ H s Q R c F h
 refine Subscript_ (monoP (iv R.less c F h) λ a x H₁ h₁ tk c₁ st r₁ q₁ => wpAny_Slice ?_)
 rw [evalPart_none,evalPart_some]
 refine wpAny_pure (wpAny_pure (wpAny_UnaryOp (wpAny_Constant_int (P.neg_int ?_))))
 cases a <;> first | exact q₁.elim | skip
 rename_i l₀
 cases r₁
 cases t3 : H₁ l₀ with
 | none => simp only [t3] at q₁
 | some o =>
   simp only [t3] at q₁
   cases o <;> first | exact q₁.elim | skip
   rename_i xs
   obtain ⟨q₃,q₄⟩ := q₁
   have cc := rev_ok (A := A) (E := E) (s := { s with heap := h₁,toks := tk + 1 + 1 }) (t := tk + 1) c₁ t3 q₃ q₄
   obtain ⟨c₁',_⟩ := c₁.grown (push_keep { cls := .type "slice",data := .fields #[.none,.none,.int (-1) (tk + 1)] })
   obtain ⟨vs,n',ho,_⟩ := list_at (s := { s with heap := h₁.push { cls := .type "slice",data := .fields #[.none,.none,.int (-1) (tk + 1)] },toks := tk + 1 + 1 }) c₁' t3
   exact tail_any ⟨_,ho,rfl⟩ slot_list_getitem.lookup (wpAny_mono cc (λ _ _ p => EP.chain (s := s) st p) λ _ _ x => x) rfl
theorem stars_of {as : List PySem.Expr} (h : plainArgs as = true) : noStars as = true ∧ as.length ≤ 20 := by
 unfold plainArgs at h
 rw [Bool.and_eq_true] at h
 exact ⟨h.1,of_decide_eq_true h.2⟩
theorem se_lst {es : List PySem.Expr} {pos : Pos} (ih : ∀ e ∈ es,SE prog w base n k sc e (cE k sc e)) : SE prog w base n (k + 1) sc (.List es pos) (cE (k + 1) sc (.List es pos)) := by
 intro A E env ρ H s Q R c F h
 have e : cE (k + 1) sc (.List es pos) = if plainArgs es then .lst (es.map (cE k sc)) else .stop := rfl
 rw [e] at h
 split at h
 · rename_i z
   obtain ⟨z1,z2⟩ := stars_of z
   refine wpAny_List (monoP (args_ok z1 ih R.less c F h) λ xs vs H₁ h₁ tk c₁ st r q => ⟨by rw [r.2,sizeLine_eq]; exact (ar (.i (.l N0 (.k 20)) (.l N0 (.k 16777216))) 1 [_] []) z2, ?_⟩)
   exact EP.chain (s := s) st (pushed_list (s := { s with heap := h₁,toks := tk }) (tk := tk) c₁ r.1 q)
 · exact h.elim
theorem se_tup {es : List PySem.Expr} {pos : Pos} {x1 : Nat} (ih : ∀ e ∈ es,SE prog w base n k sc e (cE k sc e)) : SE prog w base n (k + 1) sc (.Tuple es x1 pos) (cE (k + 1) sc (.Tuple es x1 pos)) := by
 intro A E env ρ H s Q R c F h
 have e : cE (k + 1) sc (.Tuple es x1 pos) = if plainArgs es then .tup (es.map (cE k sc)) else .stop := rfl
 rw [e] at h
 split at h
 · rename_i z
   obtain ⟨z1,z2⟩ := stars_of z
   refine wpAny_Tuple (monoP (args_ok z1 ih R.less c F h) λ xs vs H₁ h₁ tk c₁ st r q => ⟨by rw [r.2,sizeLine_eq]; exact (ar (.i (.l N0 (.k 20)) (.l N0 (.k 16777216))) 1 [_] []) z2, ?_⟩)
   exact EP.chain (s := s) st (new_tuple (s := { s with heap := h₁,toks := tk }) (tk := tk) c₁ (none_size _) (push_keep _) ⟨_,Heap.get?_push_size _ rfl,rfl,0,rfl⟩ r.1 q)
 · exact h.elim
theorem dictOf_new (h : Heap) : (h.push { cls := .type "dict",data := .dict #[] }).DictOf (intKind prog w) h.objs.size [] :=
 ⟨_,#[],0,Heap.get?_push_size _ rfl,⟨rfl,rfl,rfl⟩,rfl,by intro e he; simp at he,.nil,by simp⟩
theorem se_dict0 {pos : Pos} : SE prog w base n (k + 1) sc (.Dict [] [] pos) (cE (k + 1) sc (.Dict [] [] pos)) := by
 intro A E env ρ H s Q R c F h
 exact wpAny_Dict_empty (new_dict c (none_size _) (push_keep _) (dictOf_new _) h)
theorem callWith_K_ok (S : Stat K base) {f : Value} {first : List Value} {pos : Pos} {as : List PySem.Expr} {Q₁ : List AV → AHeap → Prop} (hk : keepIn K f = true) (hp : noStars as = true) (ih : ∀ e ∈ as,SE prog w base n k sc e (cE k sc e)) (R : Re A n k) (c : Conc prog w base H s.heap) (F : FrameRel env sc ρ H s.heap)
   (h : mEs (RC prog w base n) (as.map (cE k sc)) ρ H Q₁)
   (body : ∀ xs vs H₁ h₁ tk,Conc prog w base H₁ h₁ → Step noX H s.heap H₁ h₁ → vrels h₁ (foot H₁) xs vs → Q₁ xs H₁ → wpAny (model prog w) A (call f (first ++ vs)) (EP prog w vrel base { s with heap := h₁,toks := tk } H₁ Q) E { s with heap := h₁,toks := tk }) :
   wpAny (model prog w) A (callWith pos f first (backTo pos (starEach as env)) []) (EP prog w vrel base s H Q) E s := by
 cases as with
 | nil => exact callWith_K0 (S.at c) hk (body [] [] H s.heap s.toks c .refl vrels_nil h)
 | cons e as =>
   obtain ⟨z1,z2⟩ := starEach_cons (env := env) hp
   refine callWith_K (h₀ := base) S.X hk (monoP (args_ok hp ih R c F h) λ xs vs H₁ h₁ tk c₁ st r q => ?_) z1 (noStars_plain z2)
   exact ⟨S.at (s := { s with heap := h₁,toks := tk }) c₁,wpAny_mono (body xs vs H₁ h₁ tk c₁ st r.1 q) (λ _ _ p => EP.chain (s := s) st p) λ _ _ x => x⟩
theorem callWith_B_ok {f : Value} {first : List Value} {pos : Pos} {e₀ : PySem.Expr} {as : List PySem.Expr} {Q₁ : List AV → AHeap → Prop} (hf : (∃ id,f = .builtin id) ∨ ∃ T,f = .type T) (hp : noStars (e₀ :: as) = true) (ih : ∀ e ∈ e₀ :: as,SE prog w base n k sc e (cE k sc e)) (R : Re A n k) (c : Conc prog w base H s.heap) (F : FrameRel env sc ρ H s.heap)
   (h : mEs (RC prog w base n) ((e₀ :: as).map (cE k sc)) ρ H Q₁)
   (body : ∀ xs vs H₁ h₁ tk,Conc prog w base H₁ h₁ → Step noX H s.heap H₁ h₁ → vrelsN (e₀ :: as).length h₁ (foot H₁) xs vs → Q₁ xs H₁ → wpAny (model prog w) A (call f (first ++ vs)) (EP prog w vrel base { s with heap := h₁,toks := tk } H₁ Q) E { s with heap := h₁,toks := tk }) :
   wpAny (model prog w) A (callWith pos f first (backTo pos (starEach (e₀ :: as) env)) []) (EP prog w vrel base s H Q) E s := by
 obtain ⟨z1,z2⟩ := starEach_cons (env := env) hp
 have hpl : (backTo pos (starEach (e₀ :: as) env)).any (·.1) = false := noStars_plain hp
 have key : wpAny (model prog w) A (evalArgs f true (backTo pos (starEach (e₀ :: as) env)) []) (λ a s₁ => wpAny (model prog w) A (call f (first ++ a.pos) a.kw) (EP prog w vrel base s H Q) E s₁) E s := by
   have hh := args_ok (A := A) (E := E) (s := s) (env := env) (pos := pos) hp ih R c F h
   rw [z1] at hh ⊢
   refine evalArgs_plain (monoP hh λ xs vs H₁ h₁ tk c₁ st r q => ?_)
   exact wpAny_mono (body xs vs H₁ h₁ tk c₁ st r q) (λ _ _ p => EP.chain (s := s) st p) λ _ _ x => x
 rcases hf with ⟨id,rfl⟩ | ⟨T,rfl⟩
 · exact callWith_builtin hpl key
 · exact PySem.callWith_type hpl key
end

end P_S13

section P_S14
open PySem PySem.W PySem.Calls PyProof.Rows PySem.SeqAt

section
variable {prog : Program} {w : World} {K : Frag} {base : Heap} {A : Around} {E : Value → Shared → Prop} {s : Shared} {H : AHeap} {env : Env} {sc : Sco} {ρ : Locals} {n k : Nat} {Q : AV → AHeap → Prop}
theorem call_rc {f : Fn} {xs : List AV} {vs : List Value} (R : Rc A n) (c : Conc prog w base H s.heap) (r : vrels s.heap (foot H) xs vs) (q : RC prog w base n f xs H Q) :
   wpAny (model prog w) A (call (.ref (fAddr f)) vs) (EP prog w vrel base s H Q) E s :=
 wpAny_call (codeAny_mono (q A s vs R c r) λ r s' ⟨v,e,p⟩ => by subst e; exact p)
theorem under_new (C : Cl) (a : Args) (h : a.pos.head? = some (.ref (cAddr C))) : (A.under (.builtin "type.__call__" a)).handled = A.handled ∧ (A.under (.builtin "type.__call__" a)).depth ≤ A.depth + 1 ∧ (A.under (.builtin "type.__call__" a)).units ≤ A.units + 4 := by
 obtain ⟨p,kw⟩ := a
 cases p with
 | nil => exact nn h
 | cons v r =>
   cases h
   refine ⟨rfl, ?_, ?_⟩
   · refine (?_ : A.depth + Code.weight _ ≤ _)
     have : (Code.builtin "type.__call__" ⟨.ref (cAddr C) :: r,kw⟩).weight ≤ 1 := Nat.le_of_eq (by kernel_rfl)
     exact (ar (.i (.l N0 K1) (.l (.a N1 N0) (.a N1 K1))) 2 [_,_] []) this
   · refine (?_ : A.units + Code.cUnits _ ≤ _)
     have : (Code.builtin "type.__call__" ⟨.ref (cAddr C) :: r,kw⟩).cUnits ≤ 4 := Nat.le_trans (Nat.le_of_eq (m := 1) (by kernel_rfl)) (by decide)
     exact (ar (.i (.l N0 K4) (.l (.a N1 N0) (.a N1 K4))) 2 [_,_] []) this
theorem call_new (S : Stat K base) {C : Cl} {xs : List AV} {vs : List Value} (R : Re A n k) (c : Conc prog w base H s.heap) (r : vrels s.heap (foot H) xs vs)
   (q : ∀ x d,H x = none → H d = none → x ≠ d → RC prog w base n (initOf C) (.ref x :: xs) (H.set x (.inst C 0 d λ _ => none)) λ r H'' => r = .none ∧ Q (.ref x) H'') :
   wpAny (model prog w) A (call (.ref (cAddr C)) vs) (EP prog w vrel base s H Q) E s := by
 obtain ⟨hm,hi,hk⟩ := S.ok.cls C
 obtain ⟨hf,_⟩ := S.ok.fns (initOf C)
 have X := S.at c
 refine wpAny_call ?_
 obtain ⟨hh,g,d,t,os⟩ := s
 refine make_core (makes_of X hm) (looks_findIn X hi) (λ self => bind_fn X self (beq_iff_eq.mp hf)) (.inl rfl) ?_
 have k1 : ∀ b o,hh.get? b = some o → ((hh.push emptyDict).push (instObj (cAddr C) hh.objs.size)).get? b = some o := λ b o e => push_keep _ b o (push_keep _ b o e)
 have nx : hh.get? (hh.objs.size + 1) = none := by unfold Heap.get?; simp
 have nd : hh.get? hh.objs.size = none := none_size hh
 have ne : hh.objs.size + 1 ≠ hh.objs.size := by exact ar (.i (.e (.a N0 K1) N0) .f) 1 [_] []
 have hx : ((hh.push emptyDict).push (instObj (cAddr C) hh.objs.size)).get? (hh.objs.size + 1) = some (instObj (cAddr C) hh.objs.size) := by
   rw [← Heap.size_push hh emptyDict]; exact Heap.get?_push_size _ rfl
 have hd : ((hh.push emptyDict).push (instObj (cAddr C) hh.objs.size)).get? hh.objs.size = some (dictOf [] 0) := push_keep _ _ _ (Heap.get?_push_size _ rfl)
 obtain ⟨c',st⟩ := c.newInst (C := C) (a := hh.objs.size + 1) (d := hh.objs.size) nx nd ne k1 ⟨hx,[],0,hd,Nat.le_refl _,λ t => ⟨none,rfl,rfl⟩⟩
 obtain ⟨u1,u2,u3⟩ := under_new (A := A) C ⟨.ref (cAddr C) :: vs,[]⟩ rfl
 have R' : Rc (A.under (.builtin "type.__call__" ⟨.ref (cAddr C) :: vs,[]⟩)) n := ⟨u1.trans R.handled,by have := R.depth; exact (ar (.i (.l (.a (.a (.a N0 (.m 50 N1)) (.k 12)) N2) (.k 990)) (.i (.l N3 (.a N0 K1)) (.l (.a (.a N3 (.m 50 N1)) (.k 10)) (.k 990)))) 4 [_,_,_,_] []) this u2,by have := R.units; exact (ar (.i (.l (.a (.a (.a N0 (.m 500 N1)) (.k 120)) (.m 10 N2)) (.k 9000)) (.i (.l N3 (.a N0 K4)) (.l (.a (.a N3 (.m 500 N1)) (.k 100)) (.k 9000)))) 4 [_,_,_,_] []) this u3⟩
 have z := q (hh.objs.size + 1) hh.objs.size (c.none_of nx).1 (c.none_of nd).1 ne _ ⟨(hh.push emptyDict).push (instObj (cAddr C) hh.objs.size),g,d,t,os⟩ (.ref (hh.objs.size + 1) :: vs) R' c' (vrels_cons vrel_ref (vrels_step st r))
 refine codeAny_mono z λ r s' z => ?_
 obtain ⟨v,e,p⟩ := z
 subst e
 obtain ⟨a,H₁,h₁,tk,e,c₁,st₁,r₁,q₁,q₂⟩ := p
 subst e q₁
 cases r₁
 exact ⟨rfl,_,H₁,h₁,tk,rfl,c₁,st.trans st₁,vrel_ref,q₂⟩
end

end P_S14

section P_S15
open PySem PySem.W PySem.Calls PyProof.Rows PySem.SeqAt

section
variable {prog : Program} {w : World} {K : Frag} {base : Heap} {A : Around} {E : Value → Shared → Prop} {s : Shared} {H : AHeap} {env : Env} {sc : Sco} {ρ : Locals} {n k : Nat} {Q : AV → AHeap → Prop}
theorem eval_call_name (id : Str) (p : Pos) (as : List PySem.Expr) (pos : Pos) : eval (.Call (.Name id p) as [] pos) env = (do
   let f ← eval (.Name id p) env
   callWith pos f [] (backTo pos (starEach as env)) []) := rfl
theorem blt_val (b : Blt) : (∃ id,b.val = .builtin id) ∨ ∃ T,b.val = .type T := by
 cases b <;> first | exact .inl ⟨_,rfl⟩ | exact .inr ⟨_,rfl⟩
theorem blt_one (S : Stat K base) {b : Blt} {id : Str} {p pos : Pos} {e : PySem.Expr} {Q₁ : AV → AHeap → Prop} (hk : sc.kind id = some .globalImplicit) (hg : gl id = .blt b) (hp : noStars [e] = true) (ih : SE prog w base n k sc e (cE k sc e)) (R : Re A n k) (c : Conc prog w base H s.heap) (F : FrameRel env sc ρ H s.heap)
   (h : mE (RC prog w base n) (cE k sc e) ρ H Q₁)
   (body : ∀ a v H₁ h₁ tk,Conc prog w base H₁ h₁ → vrel h₁ (foot H₁) a v → Q₁ a H₁ → wpAny (model prog w) A (call b.val [v]) (EP prog w vrel base { s with heap := h₁,toks := tk } H₁ Q) E { s with heap := h₁,toks := tk }) :
   wpAny (model prog w) A (eval (.Call (.Name id p) [e] [] pos) env) (EP prog w vrel base s H Q) E s := by
 rw [eval_call_name]
 refine wpAny_bind (name_blt S c F hk hg ?_)
 refine callWith_B_ok (Q₁ := λ xs H' => match xs with | [a] => Q₁ a H' | _ => False) (blt_val b) hp (λ x hx => by simp only [List.mem_singleton] at hx; subst hx; exact ih) R c F h λ xs vs H₁ h₁ tk c₁ st r q => ?_
 obtain ⟨r,rl⟩ := r
 cases xs with
 | nil => exact q.elim
 | cons a xs =>
   cases xs with
   | cons => exact q.elim
   | nil =>
     obtain ⟨v,r',rfl,r1,r2⟩ := r
     cases r2
     exact body a v H₁ h₁ tk c₁ r1 q
theorem blt_two (S : Stat K base) {b : Blt} {id : Str} {p pos : Pos} {e f : PySem.Expr} {Q₁ : AV → AV → AHeap → Prop} (hk : sc.kind id = some .globalImplicit) (hg : gl id = .blt b) (hp : noStars [e,f] = true) (ih : SE prog w base n k sc e (cE k sc e)) (ih' : SE prog w base n k sc f (cE k sc f)) (R : Re A n k) (c : Conc prog w base H s.heap) (F : FrameRel env sc ρ H s.heap)
   (h : mE (RC prog w base n) (cE k sc e) ρ H λ u H₁ => mE (RC prog w base n) (cE k sc f) ρ H₁ λ v H₂ => Q₁ u v H₂)
   (body : ∀ a b' v u H₁ h₁ tk,Conc prog w base H₁ h₁ → vrel h₁ (foot H₁) a v → vrel h₁ (foot H₁) b' u → Q₁ a b' H₁ → wpAny (model prog w) A (call b.val [v,u]) (EP prog w vrel base { s with heap := h₁,toks := tk } H₁ Q) E { s with heap := h₁,toks := tk }) :
   wpAny (model prog w) A (eval (.Call (.Name id p) [e,f] [] pos) env) (EP prog w vrel base s H Q) E s := by
 rw [eval_call_name]
 refine wpAny_bind (name_blt S c F hk hg ?_)
 refine callWith_B_ok (Q₁ := λ xs H' => match xs with | [a,b] => Q₁ a b H' | _ => False) (blt_val b) hp (λ x hx => by
   simp only [List.mem_cons,List.not_mem_nil,or_false] at hx; rcases hx with rfl | rfl
   · exact ih
   · exact ih') R c F h λ xs vs H₁ h₁ tk c₁ st r q => ?_
 obtain ⟨r,rl⟩ := r
 rcases xs with _ | ⟨a,_ | ⟨b',_ | ⟨_,_⟩⟩⟩ <;> first | exact q.elim | skip
 obtain ⟨v,_,e1,r1,u,_,e2,r2,r3⟩ := r
 cases r3; subst e2; subst e1
 exact body a b' v u H₁ h₁ tk c₁ r1 r2 q
theorem blt_raw (S : Stat K base) {b : Blt} {id : Str} {p pos : Pos} {e : PySem.Expr} {Q₁ : AV → AHeap → Prop} {T : Value → Shared → Prop} (hk : sc.kind id = some .globalImplicit) (hg : gl id = .blt b) (hp : noStars [e] = true) (ih : SE prog w base n k sc e (cE k sc e)) (R : Re A n k) (c : Conc prog w base H s.heap) (F : FrameRel env sc ρ H s.heap)
   (h : mE (RC prog w base n) (cE k sc e) ρ H Q₁)
   (body : ∀ a v H₁ h₁ tk,Conc prog w base H₁ h₁ → Step noX H s.heap H₁ h₁ → vrel h₁ (foot H₁) a v → Q₁ a H₁ → wpAny (model prog w) A (call b.val [v]) T E { s with heap := h₁,toks := tk }) :
   wpAny (model prog w) A (eval (.Call (.Name id p) [e] [] pos) env) T E s := by
 rw [eval_call_name]
 refine wpAny_bind (name_blt S c F hk hg ?_)
 have hpl : (backTo pos (starEach [e] env)).any (·.1) = false := noStars_plain hp
 obtain ⟨y1,y2⟩ := starEach_cons (env := env) hp
 have key : wpAny (model prog w) A (evalArgs b.val true (backTo pos (starEach [e] env)) []) (λ a s₁ => wpAny (model prog w) A (call b.val ([] ++ a.pos) a.kw) T E s₁) E s := by
   have hh : wpAny (model prog w) A (spliced (backTo pos (starEach [e] env))) (λ vs s₁ => wpAny (model prog w) A (call b.val ([] ++ vs) []) T E s₁) E s :=
     wpAny_items_cons (monoP (ih R c F h) λ a v H₁ h₁ tk c₁ st r q => wpAny_items_nil (body a v H₁ h₁ tk c₁ st r q)) y1
   rw [y1] at hh ⊢
   exact evalArgs_plain hh
 rcases blt_val b with ⟨id,e⟩ | ⟨T',e⟩
 · rw [e] at key ⊢; exact callWith_builtin hpl key
 · rw [e] at key ⊢; exact PySem.callWith_type hpl key
theorem with_list {a : AV} {H : AHeap} {P : Addr → List AV → Prop} (h : match a with | .ref x => (match H x with | some (.list xs) => P x xs | _ => False) | _ => False) : ∃ x xs,a = .ref x ∧ H x = some (.list xs) ∧ P x xs := by
 cases a <;> first | exact h.elim | skip
 rename_i x
 cases hx : H x with
 | none => simp only [hx] at h
 | some o =>
   simp only [hx] at h
   cases o <;> first | exact h.elim | exact ⟨x,_,rfl,hx,h⟩
theorem rangeArg_of {e e' : PySem.Expr} (h : rangeArg? sc e = some e') : ∃ id p x,e = .Call (.Name id p) [e'] [] x ∧ sc.kind id = some .globalImplicit ∧ gl id = .blt .range ∧ noStars [e'] = true := by
 cases e <;> first | exact nn h | exact ft h | (cases h; done) | skip
 rename_i f as kws x
 cases as <;> first | exact nn h | exact ft h | (cases h; done) | skip
 rename_i e₀ r
 cases r <;> first | exact nn h | exact ft h | (cases h; done) | skip
 cases kws <;> first | exact nn h | exact ft h | (cases h; done) | skip
 have h : (if (gBlt sc f .range && plainArgs [e₀]) = true then some e₀ else none) = some e' := h
 by_cases z : (gBlt sc f .range && plainArgs [e₀]) = true
 · rw [if_pos z] at h
   cases h
   rw [Bool.and_eq_true] at z
   obtain ⟨z1,z2⟩ := z
   cases f <;> first | exact nn z1 | exact ft z1 | (cases z1; done) | skip
   rename_i id p
   have z1 : (decide (sc.kind id = some .globalImplicit) && decide (gl id = .blt .range)) = true := z1
   rw [Bool.and_eq_true] at z1
   exact ⟨id,p,x,rfl,of_decide_eq_true z1.1,of_decide_eq_true z1.2,(stars_of z2).1⟩
 · rw [if_neg z] at h; exact nn h
theorem cE_callName (id : Str) (p pos : Pos) (as : List PySem.Expr) : cE (k + 1) sc (.Call (.Name id p) as [] pos) = if !plainArgs as then .stop else if sc.kind id = some .globalImplicit then
         callOf (gl id) (m1 (λ a => match rangeArg? sc a with | some e => .listRange (cE k sc e) | none => .list (cE k sc a)) as) (as.map (cE k sc))
         else .stop := rfl
theorem m1_inv {α : Type} {f : α → ME} {as : List α} {P : ME → Prop} (hs : ¬ P .stop) (h : P (m1 f as)) : ∃ e,as = [e] ∧ P (f e) := by
 cases as with
 | nil => exact (hs h).elim
 | cons a r => cases r with
   | nil => exact ⟨a,rfl,h⟩
   | cons b r => exact (hs h).elim
theorem m2_inv {α : Type} {f : ME → ME → ME} {g : α → ME} {as : List α} {P : ME → Prop} (hs : ¬ P .stop) (h : P (m2 f (as.map g))) : ∃ a b,as = [a,b] ∧ P (f (g a) (g b)) := by
 cases as with
 | nil => exact (hs h).elim
 | cons a r =>
   obtain ⟨x,e,h⟩ := m1_inv (f := f (g a)) hs h
   obtain ⟨b,rfl,rfl⟩ := List.map_eq_singleton_iff.mp e
   exact ⟨a,b,rfl,h⟩
theorem m1_map {α : Type} {f : ME → ME} {g : α → ME} {as : List α} {P : ME → Prop} (hs : ¬ P .stop) (h : P (m1 f (as.map g))) : ∃ a,as = [a] ∧ P (f (g a)) := by
 obtain ⟨x,e,h⟩ := m1_inv hs h
 obtain ⟨b,rfl,rfl⟩ := List.map_eq_singleton_iff.mp e
 exact ⟨b,rfl,h⟩
theorem se_callName (S : Stat K base) {id : Str} {p pos : Pos} {as : List PySem.Expr} (ih : ∀ e ∈ as,SE prog w base n k sc e (cE k sc e)) (ih2 : ∀ f e x,as = [.Call f [e] [] x] → SE prog w base n k sc e (cE k sc e)) :
   SE prog w base n (k + 1) sc (.Call (.Name id p) as [] pos) (cE (k + 1) sc (.Call (.Name id p) as [] pos)) := by
 intro A E env ρ H s Q R c F h
 rw [cE_callName] at h
 by_cases z : plainArgs as = true
 · rw [z] at h
   simp only [Bool.not_true,Bool.false_eq_true,if_false] at h
   obtain ⟨z1,z2⟩ := stars_of z
   by_cases hk : sc.kind id = some .globalImplicit
   · rw [if_pos hk] at h
     cases hg : gl id with
     | fn f =>
       simp only [hg] at h
       rw [eval_call_name]
       refine wpAny_bind (name_fn S c F hk hg ?_)
       refine callWith_K_ok S (S.ok.fns f).2 z1 ih R.less c F h λ xs vs H₁ h₁ tk c₁ st r q => ?_
       exact call_rc (s := { s with heap := h₁,toks := tk }) R.less.rc c₁ r q
     | cls C =>
       simp only [hg] at h
       rw [eval_call_name]
       refine wpAny_bind (name_cls S c F hk hg ?_)
       refine callWith_K_ok S (S.ok.cls C).2.2 z1 ih R.less c F h λ xs vs H₁ h₁ tk c₁ st r q => ?_
       exact call_new (s := { s with heap := h₁,toks := tk }) S R.less c₁ r q
     | bnd => simp only [hg] at h; exact h.elim
     | other => simp only [hg] at h; exact h.elim
     | blt b =>
       simp only [hg] at h
       cases b
       case range => exact h.elim
       case len =>
         replace h := m1_map (P := λ m => mE (RC prog w base n) m ρ H Q) (λ z => z) h
         obtain ⟨e,rfl,h⟩ := h
         refine blt_one S hk hg z1 (ih e (.head _)) R.less c F h λ a v H₁ h₁ tk c₁ r q => ?_
         obtain ⟨x,xs,rfl,hx,q1,q2⟩ := with_list q
         cases r
         exact len_ok (s := { s with heap := h₁,toks := tk }) c₁ hx q1 q2
       case sorted =>
         replace h := m1_map (P := λ m => mE (RC prog w base n) m ρ H Q) (λ z => z) h
         obtain ⟨e,rfl,h⟩ := h
         refine blt_one S hk hg z1 (ih e (.head _)) R.less c F h λ a v H₁ h₁ tk c₁ r q => ?_
         cases a <;> first | exact q.elim | skip
         rename_i x
         cases r
         cases hx : H₁ x with
         | none => simp only [hx] at q
         | some o =>
           simp only [hx] at q
           cases o <;> first | exact q.elim | skip
           exact sorted_ok (s := { s with heap := h₁,toks := tk }) S R.handled c₁ hx q.1 q.2
       case abs =>
         replace h := m1_map (P := λ m => mE (RC prog w base n) m ρ H Q) (λ z => z) h
         obtain ⟨e,rfl,h⟩ := h
         refine blt_one S hk hg z1 (ih e (.head _)) R.less c F h λ a v H₁ h₁ tk c₁ r q => ?_
         obtain ⟨i,rfl,q⟩ := with_int q
         exact abs_ok (s := { s with heap := h₁,toks := tk }) c₁ r q
       case min =>
         replace h := m2_inv (P := λ m => mE (RC prog w base n) m ρ H Q) (λ z => z) h
         obtain ⟨e,f,rfl,h⟩ := h
         refine blt_two S hk hg z1 (ih e (.head _)) (ih f (.tail _ (.head _))) R.less c F h λ a b v u H₁ h₁ tk c₁ r r' q => ?_
         obtain ⟨i,j,rfl,rfl,q⟩ := with_ints q
         exact min_ok (s := { s with heap := h₁,toks := tk }) R.handled c₁ r r' q
       case max =>
         replace h := m2_inv (P := λ m => mE (RC prog w base n) m ρ H Q) (λ z => z) h
         obtain ⟨e,f,rfl,h⟩ := h
         refine blt_two S hk hg z1 (ih e (.head _)) (ih f (.tail _ (.head _))) R.less c F h λ a b v u H₁ h₁ tk c₁ r r' q => ?_
         obtain ⟨i,j,rfl,rfl,q⟩ := with_ints q
         exact max_ok (s := { s with heap := h₁,toks := tk }) R.handled c₁ r r' q
       case list =>
         replace h := m1_inv (P := λ m => mE (RC prog w base n) m ρ H Q) (λ z => z) h
         obtain ⟨a,rfl,h⟩ := h
         replace h : mE (RC prog w base n) (match rangeArg? sc a with | some e => .listRange (cE k sc e) | none => .list (cE k sc a)) ρ H Q := h
         cases hr : rangeArg? sc a with
         | none =>
           simp only [hr] at h
           refine blt_one S hk hg z1 (ih a (.head _)) R.less c F h λ a v H₁ h₁ tk c₁ r q => ?_
           obtain ⟨x,xs,rfl,hx,q1,q2⟩ := with_list q
           cases r
           exact list_ok (s := { s with heap := h₁,toks := tk }) c₁ hx q1 q2
         | some e =>
           simp only [hr] at h
           obtain ⟨id',p',x',rfl,hk',hg',hs'⟩ := rangeArg_of hr
           rw [eval_call_name]
           refine wpAny_bind (name_blt S c F hk hg ?_)
           have hpl : (backTo pos (starEach [PySem.Expr.Call (.Name id' p') [e] [] x'] env)).any (·.1) = false := noStars_plain z1
           refine PySem.callWith_type (T := "list") hpl ?_
           obtain ⟨y1,y2⟩ := starEach_cons (env := env) z1
           have hh : wpAny (model prog w) A (spliced (backTo pos (starEach [PySem.Expr.Call (.Name id' p') [e] [] x'] env))) (λ vs s₁ => wpAny (model prog w) A (call (.type "list") ([] ++ vs) []) (EP prog w vrel base s H Q) E s₁) E s := by
             refine wpAny_items_cons (blt_raw S hk' hg' hs' (ih2 _ e _ rfl) R.less c F h λ a v H₁ h₁ tk c₁ st r q => ?_) y1
             obtain ⟨i,rfl,q1,q2,q3⟩ := with_int q
             obtain ⟨t,rfl⟩ := r
             refine wpAny_mono (listRange_ok (s := { s with heap := h₁,toks := tk }) R.handled c₁ (t := t) q1 q2 q3) (λ r s' z => wpAny_items_nil ?_) λ _ _ x => x
             exact wpAny_mono z (λ _ _ p => EP.chain (s := s) st p) λ _ _ x => x
           rw [y1] at hh ⊢
           exact evalArgs_plain hh
   · rw [if_neg hk] at h; exact h.elim
 · have z : plainArgs as = false := by simpa using z
   rw [z] at h; exact h.elim
end

end P_S15

section P_S16
open PySem PySem.W PySem.Calls PyProof.Rows PySem.SeqAt

section
variable {prog : Program} {w : World} {K : Frag} {base : Heap} {A : Around} {E : Value → Shared → Prop} {s : Shared} {H : AHeap} {env : Env} {sc : Sco} {ρ : Locals} {n k : Nat} {Q : AV → AHeap → Prop}
theorem stars_all {pos : Pos} {as : List PySem.Expr} (h : noStars as = true) : (backTo pos (starEach as env)).all (λ x => !x.1) = true := by
 have := noStars_plain (env := env) h (pos := pos)
 rw [List.any_eq_false] at this
 rw [List.all_eq_true]
 intro x hx
 have := this x hx
 simpa using this
theorem method_call {o : PySem.Expr} {x : Str} {apos pos : Pos} {ov : Value} {as : List PySem.Expr} {T : Value → Shared → Prop} (hp : plainArgs as = true) (hline : (apos.endLine == pos.line) = true)
   (h : ∀ pl : Sem Bool,wpAny (model prog w) A (getMethod ov x pl) (λ r s' => wpAny (model prog w) A (callWith pos r.1 r.2 (backTo pos (starEach as env)) []) T E s') E s) :
   wpAny (model prog w) A (methodCall o x apos pos env ov (as.length + 0) (backTo pos (starEach as env)) (backToKw pos (keywordEach [] env))) T E s := by
 obtain ⟨z1,z2⟩ := stars_of hp
 have hform : methodCallForm (as.length + 0) (backTo pos (starEach as env)) (backToKw pos (keywordEach [] env)) = true := by
   refine (?_ : ((backTo pos (starEach as env)).all (λ x => !x.1) && true && decide (as.length + 0 + 0 < 30)) = true)
   rw [stars_all z1]
   simp only [Bool.and_self,Bool.true_and,decide_eq_true_eq]
   exact (ar (.i (.l N0 (.k 20)) (.t (.a (.a N0 K0) K0) (.k 30))) 1 [_] []) z2
 have hpos : methodCallPos true o env apos pos = pure pos := by unfold methodCallPos; simp [hline]
 unfold methodCall
 rw [hform]
 refine wpAny_bind (wpAny_holding ?_)
 refine (?_ : wpAny _ _ (getMethod ov x _) _ _ _)
 refine wpAny_mono (h _) (λ r s' hr => ?_) λ _ _ e => e
 exact wpAny_bind (wpAny_of_eq hpos hr)
theorem atOf_nm {x : Str} {a : At} (q : atOf x = some a) : x = nm a := by
 unfold atOf at q
 obtain ⟨p,hp,rfl⟩ := Option.map_eq_some_iff.mp q
 have h1 := List.mem_of_find?_eq_some hp
 have h2 := List.find?_some hp
 obtain ⟨s,_,rfl⟩ := List.mem_map.mp h1
 exact (by simpa using h2 : nm s.1 = x).symm
theorem isZ_of {as : List ME} (h : (as.length == 1 && as.all int0) = true) : as = [.int 0] := by
 cases as with
 | nil => exact ft h
 | cons a r => cases r with
   | cons b r => exact ft h
   | nil =>
     cases a <;> first | exact nn h | exact ft h | (cases h; done) | skip
     rename_i i
     by_cases z : i = 0
     · rw [z]
     · have h : (true && ((i == 0) && true)) = true := h
       exact (z (by simpa using h)).elim
theorem cE_callAttr (o : PySem.Expr) (x : Str) (apos pos : Pos) (as : List PySem.Expr) : cE (k + 1) sc (.Call (.Attribute o x apos) as [] pos) = if !plainArgs as then .stop else if noSuper o && apos.endLine == pos.line then methOf x (cE k sc o) (as.map (cE k sc)) else .stop := rfl
theorem se_meth (S : Stat K base) {o : PySem.Expr} {x : Str} {apos pos : Pos} {as : List PySem.Expr} (io : SE prog w base n k sc o (cE k sc o)) (ih : ∀ e ∈ as,SE prog w base n k sc e (cE k sc e)) :
   SE prog w base n (k + 1) sc (.Call (.Attribute o x apos) as [] pos) (cE (k + 1) sc (.Call (.Attribute o x apos) as [] pos)) := by
 intro A E env ρ H s Q R c F h
 rw [cE_callAttr] at h
 by_cases z : plainArgs as = true
 · rw [z] at h
   simp only [Bool.not_true,Bool.false_eq_true,if_false] at h
   obtain ⟨z1,z2⟩ := stars_of z
   by_cases hs : (noSuper o && apos.endLine == pos.line) = true
   · rw [if_pos hs] at h
     rw [Bool.and_eq_true] at hs
     rw [arm_eval_Call,noSuper_base hs.1]
     unfold methOf at h
     by_cases xa : x = Str.ofString "append"
     · rw [if_pos xa] at h
       replace h := m1_map (P := λ m => mE (RC prog w base n) m ρ H Q) (λ z => z) h
       obtain ⟨e,rfl,h⟩ := h
       focus
         have h : mE (RC prog w base n) (cE k sc o) ρ H λ v H₁ => isListV H₁ v = true ∧ mE (RC prog w base n) (cE k sc e) ρ H₁ λ u H₂ => match v with
           | .ref x => (match H₂ x with | some (.list xs) => xs.length < lim ∧ Q .none (H₂.set x (.list (xs ++ [u]))) | _ => False)
           | _ => False := h
         refine wpAny_bind (monoP (io R.less c F h) λ a v H₁ h₁ tk c₁ st r q => wpAny_bind (wpAny_standAt ?_))
         obtain ⟨q1,q2⟩ := q
         refine method_call z hs.2 λ pl => ?_
         unfold isListV at q1
         cases a <;> first | cases q1 | skip
         rename_i l
         cases r
         cases hl : H₁ l with
         | none => simp only [hl] at q1; cases q1
         | some ol =>
           simp only [hl] at q1
           cases ol <;> first | cases q1 | skip
           rename_i xs
           obtain ⟨vs,m,ho,rv,rl⟩ := list_at (s := { s with heap := h₁,toks := tk }) c₁ hl
           rw [xa]
           refine getMethod_builtin (s := { s with heap := h₁,toks := tk }) ⟨_,ho,rfl⟩ PySem.F.plainAttrs_list PySem.F.slot_list_append PySem.F.type_list_append (λ a e => by cases e; exact ⟨_,ho,rfl⟩) ?_
           refine wpAny_mono (callWith_B_ok (s := { s with heap := h₁,toks := tk }) (first := [.ref l]) (Q := Q) (Q₁ := λ ys H₂ => match ys with | [u] => (match H₂ l with | some (.list xs) => xs.length < lim ∧ Q .none (H₂.set l (.list (xs ++ [u]))) | _ => False) | _ => False)
             (.inl ⟨_,rfl⟩) z1 ih R.less c₁ (F.step st) q2 λ ys vs H₂ h₂ tk₂ c₂ st₂ r₂ q₂ => ?_) (λ _ _ p => EP.chain (s := s) st p) λ _ _ x => x
           rcases ys with _ | ⟨u,_ | ⟨_,_⟩⟩ <;> first | exact q₂.elim | skip
           focus
             obtain ⟨⟨v,_,e1,r1,r2⟩,_⟩ := r₂
             cases r2; subst e1
             cases hl₂ : H₂ l with
             | none => simp only [hl₂] at q₂
             | some ol =>
               simp only [hl₂] at q₂
               cases ol <;> first | exact q₂.elim | skip
               exact append_ok (s := { s with heap := h₂,toks := tk₂ }) c₂ hl₂ q₂.1 r1 q₂.2
     · rw [if_neg xa] at h
       by_cases xp : x = Str.ofString "pop"
       · rw [if_pos xp] at h
         by_cases hz : ((as.map (cE k sc)).length == 1 && (as.map (cE k sc)).all int0) = true
         · rw [if_pos hz] at h
           have hz := isZ_of hz
           obtain ⟨e,rfl,he⟩ := List.map_eq_singleton_iff.mp hz
           focus
             have h : mE (RC prog w base n) (cE k sc o) ρ H λ v H₁ => match v with
               | .ref x => (match H₁ x with | some (.list (u :: xs)) => xs.length < lim ∧ Q u (H₁.set x (.list xs)) | _ => False)
               | _ => False := h
             refine wpAny_bind (monoP (io R.less c F h) λ a v H₁ h₁ tk c₁ st r q => wpAny_bind (wpAny_standAt ?_))
             refine method_call z hs.2 λ pl => ?_
             cases a <;> first | exact q.elim | skip
             rename_i l
             cases r
             cases hl : H₁ l with
             | none => simp only [hl] at q
             | some ol =>
               simp only [hl] at q
               cases ol <;> first | exact q.elim | skip
               rename_i xs
               cases xs with
               | nil => exact q.elim
               | cons u xs =>
               obtain ⟨vs,m,ho,rv,rl⟩ := list_at (s := { s with heap := h₁,toks := tk }) c₁ hl
               rw [xp]
               refine getMethod_builtin (s := { s with heap := h₁,toks := tk }) ⟨_,ho,rfl⟩ PySem.F.plainAttrs_list PySem.F.slot_list_pop PySem.F.type_list_pop (λ a e => by cases e; exact ⟨_,ho,rfl⟩) ?_
               refine wpAny_mono (callWith_B_ok (s := { s with heap := h₁,toks := tk }) (first := [.ref l]) (ρ := ρ) (Q := Q) (Q₁ := λ ys H₂ => ys = [.int 0] ∧ H₂ = H₁)
                 (.inl ⟨_,rfl⟩) z1 ih R.less c₁ (F.step st) (by
                   refine (?_ : mE (RC prog w base n) (cE k sc e) ρ H₁ _)
                   rw [he]; exact ⟨rfl,rfl⟩) λ ys vs H₂ h₂ tk₂ c₂ st₂ r₂ q₂ => ?_) (λ _ _ p => EP.chain (s := s) st p) λ _ _ x => x
               obtain ⟨rfl,rfl⟩ := q₂
               obtain ⟨⟨v,_,e1,⟨t,r1⟩,r2⟩,_⟩ := r₂
               cases r2; subst e1; subst r1
               exact pop0_ok (s := { s with heap := h₂,toks := tk₂ }) c₂ hl q.1 q.2
         · rw [if_neg hz] at h; exact h.elim
       · rw [if_neg xp] at h
         cases ha : atOf x with
         | none => simp only [ha] at h; exact h.elim
         | some a =>
           simp only [ha] at h
           have hx := atOf_nm ha
           have h : mE (RC prog w base n) (cE k sc o) ρ H λ v H' => match v with
             | .ref x => (match H' x with | some (.inst C _ _ F) => F a = none ∧ (match methodOf C a with | some f => mEs (RC prog w base n) (as.map (cE k sc)) ρ H' λ vs H'' => RC prog w base n f (.ref x :: vs) H'' Q | none => False) | _ => False)
             | _ => False := h
           refine wpAny_bind (monoP (io R.less c F h) λ a' v H₁ h₁ tk c₁ st r q => wpAny_bind (wpAny_standAt ?_))
           refine method_call z hs.2 λ pl => ?_
           cases a' <;> first | exact q.elim | skip
           rename_i y
           cases r
           cases hy : H₁ y with
           | none => simp only [hy] at q
           | some oy =>
             simp only [hy] at q
             cases oy <;> first | exact q.elim | skip
             rename_i C kk d F'
             obtain ⟨q1,q2⟩ := q
             cases hm : methodOf C a with
             | none => simp only [hm] at q2
             | some f =>
               simp only [hm] at q2
               rw [hx]
               refine get_method (s := { s with heap := h₁,toks := tk }) S c₁ hy hm q1 ?_
               refine wpAny_mono (callWith_K_ok (s := { s with heap := h₁,toks := tk }) S (first := [.ref y]) (S.ok.fns f).2 z1 ih R.less c₁ (F.step st) q2 λ xs vs H₂ h₂ tk₂ c₂ st₂ r₂ q₂ => ?_) (λ _ _ p => EP.chain (s := s) st p) λ _ _ x => x
               exact call_rc (s := { s with heap := h₂,toks := tk₂ }) R.less.rc c₂ (vrels_cons vrel_ref r₂) q₂
   · rw [if_neg hs] at h; exact h.elim
 · have z : plainArgs as = false := by simpa using z
   rw [z] at h; exact h.elim
end

end P_S16

section P_S17
open PySem PySem.W PySem.Calls PyProof.Rows PySem.SeqAt

section
variable {prog : Program} {w : World} {K : Frag} {base : Heap} {A : Around} {E : Value → Shared → Prop} {s : Shared} {H : AHeap} {env : Env} {sc : Sco} {ρ : Locals} {n k : Nat} {Q : AV → AHeap → Prop}
mutual
theorem vrel_tm {h h' : Heap} {P P' : Addr → Prop} (hk : ∀ a vs,h.IsTuple a vs → ¬ P a → h'.IsTuple a vs ∧ ¬ P' a) : ∀ {a : AV} {v : Value},vrel h P a v → vrel h' P' a v
 | .none,_,r => r
 | .bool _,_,r => r
 | .int _,_,r => r
 | .str _,_,r => r
 | .ref _,_,r => r
 | .tup xs,_,⟨a,vs,e,np,t,q⟩ => ⟨a,vs,e,(hk a _ t np).2,(hk a _ t np).1,vrels_tm hk q⟩
theorem vrels_tm {h h' : Heap} {P P' : Addr → Prop} (hk : ∀ a vs,h.IsTuple a vs → ¬ P a → h'.IsTuple a vs ∧ ¬ P' a) : ∀ {xs : List AV} {vs : List Value},vrels h P xs vs → vrels h' P' xs vs
 | [],_,r => r
 | _ :: _,_,⟨v,r,e,a,b⟩ => ⟨v,r,e,vrel_tm hk a,vrels_tm hk b⟩
end
theorem orel_tm {h h' : Heap} {P P' : Addr → Prop} (hk : ∀ a vs,h.IsTuple a vs → ¬ P a → h'.IsTuple a vs ∧ ¬ P' a) : ∀ {a : Option AV} {v : Option Value},orel h P a v → orel h' P' a v
 | none,_,r => r
 | some _,_,⟨u,e,r⟩ => ⟨u,e,vrel_tm hk r⟩
theorem drel_tm {h h' : Heap} {P P' : Addr → Prop} (hk : ∀ a vs,h.IsTuple a vs → ¬ P a → h'.IsTuple a vs ∧ ¬ P' a) : ∀ {xs : List (Int × AV)} {vs : List (Int × Value)},drel h P xs vs → drel h' P' xs vs
 | [],_,r => r
 | (_,_) :: _,_,⟨v,r,e,a,b⟩ => ⟨v,r,e,vrel_tm hk a,drel_tm hk b⟩
theorem RObj_tm {h h' : Heap} {P P' : Addr → Prop} {a : Addr} {o : AO} (hk : ∀ a vs,h.IsTuple a vs → ¬ P a → h'.IsTuple a vs ∧ ¬ P' a) (r : RObj prog w h P a o) (ha : h'.get? a = h.get? a)
   (hd : ∀ C k d F,o = .inst C k d F → h'.get? d = h.get? d) : RObj prog w h' P' a o := by
 cases o with
 | list xs => obtain ⟨vs,⟨n,ho⟩,p⟩ := r; exact ⟨vs,⟨n,ha.trans ho⟩,vrels_tm hk p⟩
 | flist xs => obtain ⟨vs,⟨o,ho,q⟩,p⟩ := r; exact ⟨vs,⟨o,ha.trans ho,q⟩,vrels_tm hk p⟩
 | inst C k d F =>
   obtain ⟨r1,es,n,r2,r3,r4⟩ := r
   exact ⟨ha.trans r1,es,n,(hd C k d F rfl).trans r2,r3,λ t => by obtain ⟨u,a,b⟩ := r4 t; exact ⟨u,a,orel_tm hk b⟩⟩
 | idict es => obtain ⟨kvs,⟨o,es,ep,ho,q⟩,p⟩ := r; exact ⟨kvs,⟨o,es,ep,ha.trans ho,q⟩,drel_tm hk p⟩
noncomputable def Priv (base : Heap) (H : AHeap) (h : Heap) (X : Addr → Prop) : Prop := ∀ a,X a → ¬ foot H a ∧ base.get? a = none ∧ ∀ vs,¬ h.IsTuple a vs
noncomputable def Beside (X : Addr → Prop) (h h' : Heap) : Prop := ∀ b o,¬ X b → h.get? b = some o → h'.get? b = some o
theorem Beside.of_same {a : Addr} {h h' : Heap} (s : Heap.SameBut a h h') : Beside (· = a) h h' := λ b _ n e => (s.2 b n).trans e
theorem Beside.of_ext {a : Addr} {h h' : Heap} (s : Heap.ExtBut a h h') : Beside (· = a) h h' := λ b o n e => s b o n e
theorem Beside.tm {X : Addr → Prop} {h h' : Heap} (b : Beside X h h') (p : Priv base H h X) : ∀ a vs,h.IsTuple a vs → ¬ foot H a → h'.IsTuple a vs ∧ ¬ foot H a := λ a vs t nf =>
 let ⟨o,ho,r⟩ := id t
 ⟨⟨o,b a o (λ x => (p a x).2.2 vs t) ho,r⟩,nf⟩
theorem Conc.beside {X : Addr → Prop} {h h' : Heap} (c : Conc prog w base H h) (p : Priv base H h X) (b : Beside X h h') : Conc prog w base H h' := by
 have tm := b.tm p
 have nb : ∀ a o,base.get? a = some o → ¬ X a := λ a o e x => by rw [(p a x).2.1] at e; exact nn e
 refine ⟨λ a o e => b a o (nb a o e) (c.keep a o e),λ a o e => ?_,c.own,c.inj,c.apart,c.held⟩
 refine RObj_tm tm (c.obj a o e) ?_ λ C k d F z => ?_
 · obtain ⟨o',e'⟩ := c.dom e
   rw [e',b a o' (λ x => ?_) e']
   by_cases hf : ∃ xs,o = .flist xs
   · obtain ⟨xs,rfl⟩ := hf
     obtain ⟨o'',e''⟩ := c.held a xs e
     exact nb a o'' e'' x
   · exact (p a x).1 (.inl ⟨o,e,λ xs z => hf ⟨xs,z⟩⟩)
 · subst z
   have f : foot H d := .inr ⟨a,C,k,F,e⟩
   obtain ⟨o',e'⟩ := c.live f
   rw [e',b d o' (λ x => (p d x).1 f) e']
theorem Step.then_beside {X Y : Addr → Prop} {H H' : AHeap} {h h₁ h' : Heap} (st : Step X H h H' h₁) (b : Beside Y h₁ h') (n : ∀ y,Y y → h.get? y = none) : Step X H h H' h' :=
 ⟨λ a o e nf nx => b a o (λ y => by rw [n a y] at e; exact nn e) (st.keep a o e nf nx),st.foot,λ a o e => by
   obtain ⟨o',e'⟩ := st.live a o e
   exact ⟨o',b a o' (λ y => by rw [n a y] at e; exact nn e) e'⟩⟩
theorem Step.of_beside {Y : Addr → Prop} {H : AHeap} {h h' : Heap} (b : Beside Y h h') (live : ∀ a o,Y a → h.get? a = some o → ∃ o',h'.get? a = some o') : Step Y H h H h' :=
 ⟨λ a o e _ ny => b a o ny e,λ _ f => .inl f,λ a o e => by
   by_cases y : Y a
   · exact live a o y e
   · exact ⟨o,b a o y e⟩⟩
theorem Step.drop {X : Addr → Prop} {H H' : AHeap} {h h' : Heap} (st : Step X H h H' h') (n : ∀ y,X y → h.get? y = none) : Step noX H h H' h' :=
 ⟨λ a o e nf _ => st.keep a o e nf (λ x => by rw [n a x] at e; exact nn e),st.foot,st.live⟩
theorem ns_no_tuple {h : Heap} {a : Addr} {m : Str → Option Value} (x : h.Ns a m) : ∀ vs,¬ h.IsTuple a vs := by
 rintro vs ⟨o,ho,_,n,hd⟩
 obtain ⟨o',es,ep,ho',hd',_⟩ := x
 rw [ho] at ho'; cases ho'; rw [hd] at hd'; cases hd'
theorem cell_no_tuple {h : Heap} {a : Addr} {v : Option Value} (x : h.IsCell a v) : ∀ vs,¬ h.IsTuple a vs := by
 rintro vs ⟨o,ho,_,n,hd⟩
 obtain ⟨o',ho',hd'⟩ := x
 rw [ho] at ho'; cases ho'; rw [hd] at hd'; cases hd'
theorem plain_no_tuple {h : Heap} {a : Addr} {vs : Array Value} (q : h.PlainList a vs) : ∀ us,¬ h.IsTuple a us := by
 rintro us ⟨o,ho,hc,_⟩
 obtain ⟨n,e⟩ := q
 rw [e] at ho; cases ho
 simp at hc
structure Own (base : Heap) (env : Env) (sc : Sco) : Prop where
 loc : base.get? env.locals = none
 cel : ∀ x i c,sc.code x = some i → sc.kind x = some .cell → env.cells.lookup x = some c → base.get? c = none
theorem upd_same (ρ : Locals) (i : Nat) (a : AV) : upd ρ i a i = some a := if_pos rfl
theorem upd_other (ρ : Locals) {i j : Nat} (a : AV) (n : j ≠ i) : upd ρ i a j = ρ j := if_neg n
theorem store_local (c : Conc prog w base H s.heap) (F : FrameRel env sc ρ H s.heap) (hb : base.get? env.locals = none) {x : Str} {i : Nat} {a : AV} {v : Value} {Q : Unit → Shared → Prop} (hi : sc.code x = some i) (hk : sc.kind x = some .local)
   (r : vrel s.heap (foot H) a v)
   (h : ∀ h' tk,Conc prog w base H h' → FrameRel env sc (upd ρ i a) H h' → Heap.SameBut env.locals s.heap h' → (∃ o,h'.get? env.locals = some o) → Q () { s with heap := h',toks := tk }) :
   wpAny (model prog w) A (storeName env x v) Q E s := by
 obtain ⟨m,hn,q⟩ := F.loc
 refine wpAny_storeName_local ((F.names x).trans hk) hn (λ h' hn' hs => ?_) (by rw [F.kind]; rfl)
 have p : Priv base H s.heap (· = env.locals) := λ a e => by subst e; exact ⟨F.off,hb,ns_no_tuple hn⟩
 have b := Beside.of_same hs
 have tm := b.tm p
 refine h h' _ (c.beside p b) ⟨F.kind,F.names,F.glob,F.blt,F.code,F.inj,⟨_,hn',λ y j hy hyk => ?_⟩,λ y j hy hyk => ?_,F.off,F.offc,F.apart,F.dbg⟩ hs (by obtain ⟨o,_,_,ho,_⟩ := hn'; exact ⟨o,ho⟩)
 · by_cases e : y = x
   · subst e
     rw [hi] at hy; cases hy
     rw [upd_same]
     exact ⟨v,if_pos rfl,vrel_tm tm r⟩
   · have nj : j ≠ i := λ z => e (F.inj y x i (z ▸ hy) hi)
     rw [upd_other _ _ nj]
     refine (?_ : orel h' (foot H) (ρ j) (if y = x then some v else m y))
     rw [if_neg e]
     exact orel_tm tm (q y j hy hyk)
 · obtain ⟨cl,u,e1,e2,e3⟩ := F.cel y j hy hyk
   have nj : j ≠ i := λ z => by
     have := F.inj y x i (z ▸ hy) hi
     subst this
     rw [hk] at hyk; cases hyk
   rw [upd_other _ _ nj]
   exact ⟨cl,u,e1,e2.sameBut hs (F.offc y j cl hy hyk e1).2,orel_tm tm e3⟩
theorem store_cell (c : Conc prog w base H s.heap) (F : FrameRel env sc ρ H s.heap) (O : Own base env sc) {x : Str} {i : Nat} {a : AV} {v : Value} {Q : Unit → Shared → Prop} (hi : sc.code x = some i) (hk : sc.kind x = some .cell)
   (r : vrel s.heap (foot H) a v)
   (h : ∀ cl h',env.cells.lookup x = some cl → Conc prog w base H h' → FrameRel env sc (upd ρ i a) H h' → Heap.SameBut cl s.heap h' → (∃ o,h'.get? cl = some o) → Q () { s with heap := h' }) :
   wpAny (model prog w) A (storeName env x v) Q E s := by
 obtain ⟨cl,u,e1,e2,e3⟩ := F.cel x i hi hk
 obtain ⟨o1,o2⟩ := F.offc x i cl hi hk e1
 refine wpAny_storeName_cell F.kind ((F.names x).trans hk) e1 e2 λ h' hc' hs => ?_
 have p : Priv base H s.heap (· = cl) := λ a e => by subst e; exact ⟨o1,O.cel x i _ hi hk e1,cell_no_tuple e2⟩
 have b := Beside.of_same hs
 have tm := b.tm p
 refine h cl h' e1 (c.beside p b) ⟨F.kind,F.names,F.glob,F.blt,F.code,F.inj, ?_,λ y j hy hyk => ?_,F.off,F.offc,F.apart,F.dbg⟩ hs (let ⟨o,ho,_⟩ := hc'; ⟨o,ho⟩)
 · obtain ⟨m,hn,q⟩ := F.loc
   refine ⟨m,hn.sameBut hs (Ne.symm o2),λ y j hy hyk => ?_⟩
   have nj : j ≠ i := λ z => by
     have := F.inj y x i (z ▸ hy) hi
     subst this
     rw [hk] at hyk; cases hyk
   rw [upd_other _ _ nj]
   exact orel_tm tm (q y j hy hyk)
 · by_cases e : y = x
   · subst e
     rw [hi] at hy; cases hy
     rw [upd_same]
     exact ⟨cl,some v,e1,hc',v,rfl,vrel_tm tm r⟩
   · have nj : j ≠ i := λ z => e (F.inj y x i (z ▸ hy) hi)
     rw [upd_other _ _ nj]
     obtain ⟨cl',u',f1,f2,f3⟩ := F.cel y j hy hyk
     refine ⟨cl',u',f1,f2.sameBut hs (λ z => ?_),orel_tm tm f3⟩
     subst z
     exact e (F.apart y x j i cl' hy hyk hi hk f1 e1)
noncomputable def ownX (env : Env) (sc : Sco) : Addr → Prop := λ a => a = env.locals ∨ ∃ x i,sc.code x = some i ∧ sc.kind x = some .cell ∧ env.cells.lookup x = some a
theorem store_var (c : Conc prog w base H s.heap) (F : FrameRel env sc ρ H s.heap) (O : Own base env sc) {x : Str} {i : Nat} {a : AV} {v : Value} {Q : Unit → Shared → Prop} (hi : sc.code x = some i)
   (r : vrel s.heap (foot H) a v)
   (h : ∀ h' tk,Conc prog w base H h' → FrameRel env sc (upd ρ i a) H h' → Step (ownX env sc) H s.heap H h' → Q () { s with heap := h',toks := tk }) :
   wpAny (model prog w) A (storeName env x v) Q E s := by
 rcases F.code x i hi with hk | hk
 · exact store_local c F O.loc hi hk r λ h' tk c' F' hs live => h h' tk c' F' ((Step.of_beside (Beside.of_same hs) λ a o e _ => e ▸ live).weaken λ _ e => .inl e)
 · exact store_cell c F O hi hk r λ cl h' hl c' F' hs live => h h' s.toks c' F' ((Step.of_beside (Beside.of_same hs) λ a o e _ => e ▸ live).weaken λ _ e => .inr ⟨x,i,hi,hk,e ▸ hl⟩)
end

end P_S17

section P_S18
open PySem PySem.W PySem.Calls PyProof.Rows PySem.SeqAt

section
variable {prog : Program} {w : World} {K : Frag} {base : Heap} {A : Around} {E : Value → Shared → Prop} {s : Shared} {H : AHeap} {env : Env} {sc : Sco} {ρ : Locals} {n k : Nat} {Q : AV → AHeap → Prop}
theorem nameCode_of {e : PySem.Expr} {c : Nat} (h : nameCode? sc e = some c) : ∃ id p,e = .Name id p ∧ sc.kind id = some .local ∧ sc.code id = some c := by
 cases e <;> first | exact nn h | exact ft h | (cases h; done) | skip
 rename_i id p
 have h : (if sc.kind id = some .local then sc.code id else none) = some c := h
 by_cases z : sc.kind id = some .local
 · rw [if_pos z] at h; exact ⟨id,p,rfl,z,h⟩
 · rw [if_neg z] at h; exact nn h
theorem target_cases {t : PySem.Expr} {xs : List Nat} {one : Bool} (h : target? sc t = some (xs,one)) : (∃ id p i,t = .Name id p ∧ sc.kind id = some .local ∧ sc.code id = some i ∧ xs = [i] ∧ one = true) ∨ ∃ es a p,t = .Tuple es a p ∧ namesCodes? sc es = some xs ∧ one = false := by
 cases t <;> first | exact nn h | exact ft h | (cases h; done) | skip
 case Name id p =>
   have h : (if sc.kind id = some .local then (sc.code id).map λ c => ([c],true) else none) = some (xs,one) := h
   by_cases z : sc.kind id = some .local
   · rw [if_pos z] at h
     obtain ⟨i,hi,e⟩ := Option.map_eq_some_iff.mp h
     cases e
     exact .inl ⟨id,p,i,rfl,z,hi,rfl,rfl⟩
   · rw [if_neg z] at h; exact nn h
 case Tuple es a p =>
   obtain ⟨cs,hc,e⟩ := Option.map_eq_some_iff.mp (show (namesCodes? sc es).map (λ cs => (cs,false)) = some (xs,one) from h)
   cases e
   exact .inr ⟨es,a,p,rfl,hc,rfl⟩
theorem namesCodes_cons {e : PySem.Expr} {es : List PySem.Expr} {xs : List Nat} (h : namesCodes? sc (e :: es) = some xs) : ∃ c cs,xs = c :: cs ∧ nameCode? sc e = some c ∧ namesCodes? sc es = some cs := by
 refine (?_ : ∃ c cs,xs = c :: cs ∧ _ ∧ _)
 have h : (match nameCode? sc e,namesCodes? sc es with | some c,some cs => some (c :: cs) | _,_ => none) = some xs := h
 cases h1 : nameCode? sc e with
 | none => simp only [h1] at h; exact nn h
 | some c =>
   cases h2 : namesCodes? sc es with
   | none => simp only [h1,h2] at h; exact nn h
   | some cs => simp only [h1,h2] at h; cases h; exact ⟨c,cs,rfl,rfl,rfl⟩
theorem names_assign (hb : base.get? env.locals = none) : ∀ {es : List PySem.Expr} {xs : List Nat} {as : List AV} {vs : List Value} {ρ : Locals} {s : Shared} {Q : Unit → Shared → Prop},namesCodes? sc es = some xs → xs.length = as.length → Conc prog w base H s.heap → FrameRel env sc ρ H s.heap →
   vrels s.heap (foot H) as vs →
   (∀ h' tk,Conc prog w base H h' → FrameRel env sc (upds ρ xs as) H h' → Step (· = env.locals) H s.heap H h' → Q () { s with heap := h',toks := tk }) →
   wpAny (model prog w) A (assignInOrder ((assignEach es env).map (·.2)) vs) Q E s
 | [],xs,as,vs,ρ,s,Q,hn,hl,c,F,r,h => by
   cases hn
   have ha : as = [] := List.eq_nil_of_length_eq_zero hl.symm
   subst ha
   cases r
   exact wpAny_pure (h s.heap s.toks c F .refl)
 | e :: es,xs,as,vs,ρ,s,Q,hn,hl,c,F,r,h => by
   obtain ⟨x,cs,rfl,h1,h2⟩ := namesCodes_cons hn
   obtain ⟨id,p,rfl,hk,hc⟩ := nameCode_of h1
   cases as with
   | nil => cases hl
   | cons a as =>
     obtain ⟨v,r',rfl,r1,r2⟩ := r
     refine (?_ : wpAny _ _ (assignInOrder (assign (.Name id p) env :: ((assignEach es env).map (·.2))) (v :: r')) _ _ _)
     refine wpAny_assignInOrder_more (wpAny_assign_Name (store_local c F hb hc hk r1 λ h' tk c' F' hs live => ?_))
     have pv : Priv base H s.heap (· = env.locals) := λ a e => by
       subst e
       obtain ⟨m,hn,_⟩ := F.loc
       exact ⟨F.off,hb,ns_no_tuple hn⟩
     have st : Step (· = env.locals) H s.heap H h' := Step.of_beside (Beside.of_same hs) λ a o e _ => e ▸ live
     refine names_assign (s := { s with heap := h',toks := tk }) hb h2 (by simpa using hl) c' F' (vrels_tm ((Beside.of_same hs).tm pv) r2) λ h'' tk' c'' F'' st' => ?_
     exact h h'' tk' c'' F'' (st.trans st')
theorem assignEach_names : ∀ {es : List PySem.Expr} {xs : List Nat},namesCodes? sc es = some xs → (assignEach es env).length = xs.length ∧ (assignEach es env).findIdx? (·.1) = none
 | [],xs,h => by cases h; exact ⟨rfl,rfl⟩
 | e :: es,xs,h => by
   obtain ⟨x,cs,rfl,h1,h2⟩ := namesCodes_cons h
   obtain ⟨id,p,rfl,hk,hc⟩ := nameCode_of h1
   obtain ⟨i1,i2⟩ := assignEach_names h2
   refine (?_ : ((false,assign (.Name id p) env) :: assignEach es env).length = _ ∧ ((false,assign (.Name id p) env) :: assignEach es env).findIdx? (·.1) = none)
   refine ⟨by rw [List.length_cons,i1]; rfl, ?_⟩
   rw [List.findIdx?_cons]
   simp [i2]
theorem assign_tuple (hh : A.handled = none) (hb : base.get? env.locals = none) {es : List PySem.Expr} {x1 : Nat} {pos : Pos} {xs : List Nat} {as : List AV} {v : Value} {Q : Unit → Shared → Prop} (hn : namesCodes? sc es = some xs) (hl : xs.length = as.length) (c : Conc prog w base H s.heap) (F : FrameRel env sc ρ H s.heap)
   (r : vrel s.heap (foot H) (.tup as) v)
   (h : ∀ h' tk,Conc prog w base H h' → FrameRel env sc (upds ρ xs as) H h' → Step (· = env.locals) H s.heap H h' → Q () { s with heap := h',toks := tk }) :
   wpAny (model prog w) A (assign (.Tuple es x1 pos) env v) Q E s := by
 obtain ⟨t,vs,rfl,np,ht,rv⟩ := r
 obtain ⟨e1,e2⟩ := assignEach_names (env := env) hn
 refine wpAny_assign_Tuple hh ht (by rw [e1,hl,List.size_toArray,vrels_length rv]) e2 λ h' he => ?_
 have k : ∀ b o,s.heap.get? b = some o → h'.get? b = some o := λ b o e => he b o (λ z => by subst z; rw [none_size] at e; exact nn e) e
 obtain ⟨c',st⟩ := c.grown k
 refine names_assign (s := { s with heap := h' }) hb hn hl c' (F.step st) (vrels_step st rv) λ h'' tk c'' F'' st' => ?_
 exact h h'' tk c'' F'' ((st.weaken λ _ x => x.elim).trans st')
theorem assign_target (hh : A.handled = none) (hb : base.get? env.locals = none) {t : PySem.Expr} {xs : List Nat} {one : Bool} {a : AV} {ρ' : Locals} {v : Value} {Q : Unit → Shared → Prop} (ht : target? sc t = some (xs,one)) (hr : bindT xs one ρ a = some ρ') (c : Conc prog w base H s.heap) (F : FrameRel env sc ρ H s.heap)
   (r : vrel s.heap (foot H) a v)
   (h : ∀ h' tk,Conc prog w base H h' → FrameRel env sc ρ' H h' → Step (· = env.locals) H s.heap H h' → Q () { s with heap := h',toks := tk }) :
   wpAny (model prog w) A (assign t env v) Q E s := by
 rcases target_cases ht with ⟨id,p,i,rfl,hk,hc,rfl,rfl⟩ | ⟨es,x1,p,rfl,hn,rfl⟩
 · cases hr
   exact wpAny_assign_Name (store_local c F hb hc hk r λ h' tk c' F' hs live => h h' tk c' F' (Step.of_beside (Beside.of_same hs) λ a o e _ => e ▸ live))
 · unfold bindT at hr
   cases a <;> first | exact nn hr | exact ft hr | (cases hr; done) | skip
   rename_i as
   simp only [] at hr
   split at hr
   · rename_i hl
     cases hr
     exact assign_tuple hh hb hn hl c F r h
   · exact nn hr
theorem wpAny_letOwned {M : Model} {t : PySem.Expr} {I : Addr} {o : Obj} {T : String} {v : Value} {Q : Unit → Shared → Prop} (ho : s.heap.get? I = some o) (hc : o.cls = .type T) (hT : T = "list_iterator" ∨ T = "range_iterator") (h : Q () s) :
   wpAny M A (letOwnedTupleGo t (.ref I) v) Q E s := by
 have key : wpAny M A (do
   let (.ref r,.ref a) := ((.ref I : Value),v) | return
   let o ← load r
   match o.cls,o.data with
   | .type n,.fields vs =>
     if ["enumerate", "zip", "dict_itemiterator", "dict_reverseitemiterator", "odict_iterator", "itertools.zip_longest", "itertools.pairwise"].contains n && vs[0]? == some (rawInt a) then
       rule "for.unpacks-the-owned-tuple"
       updateField r 0 .none
   | _,_ => pure () : Sem Unit) Q E s := by
   cases v <;> try exact wpAny_pure h
   refine wpAny_bind (wpAny_load ho ?_)
   rw [hc]
   cases o.data <;> try exact wpAny_pure h
   rcases hT with rfl | rfl <;> exact wpAny_pure h
 cases t <;> first | exact wpAny_pure h | exact key
structure ItOk (prog : Program) (w : World) (base : Heap) (A : Around) (I : Addr) (avs : List AV) (same : AHeap → Prop) (St : Nat → Heap → Prop) : Prop where
 item : ∀ {E : Value → Shared → Prop} {s : Shared} {H : AHeap} {i : Nat} {a : AV} {Q : Option Value → Shared → Prop},avs[i]? = some a → Conc prog w base H s.heap → same H → St i s.heap →
   (∀ v h' tk,vrel s.heap (foot H) a v → St (i + 1) h' → Beside (· = I) s.heap h' → Q (some v) { s with heap := h',toks := tk }) → wpAny (model prog w) A (pyNext (.ref I)) Q E s
 done : ∀ {E : Value → Shared → Prop} {s : Shared} {H : AHeap} {i : Nat} {Q : Option Value → Shared → Prop},avs.length ≤ i → Conc prog w base H s.heap → same H → St i s.heap →
   (∀ h' tk,Beside (· = I) s.heap h' → Q none { s with heap := h',toks := tk }) → wpAny (model prog w) A (pyNext (.ref I)) Q E s
 frame : ∀ {i : Nat} {h h' : Heap},St i h → (∀ o,h.get? I = some o → h'.get? I = some o) → St i h'
 live : ∀ {i : Nat} {h : Heap},St i h → ∃ o T,h.get? I = some o ∧ o.cls = .type T ∧ (T = "list_iterator" ∨ T = "range_iterator")
 self : ∀ {E : Value → Shared → Prop} {s : Shared} {i : Nat} {Q : Value → Shared → Prop},St i s.heap → Q (.ref I) s → wpAny (model prog w) A (pyIter (.ref I)) Q E s
theorem ItOk.priv {I : Addr} {avs : List AV} {same : AHeap → Prop} {St : Nat → Heap → Prop} (_ : ItOk prog w base A I avs same St) {i : Nat} {h : Heap} (st : St i h) (it : ItOk prog w base A I avs same St) (nf : ¬ foot H I) (nb : base.get? I = none) : Priv base H h (· = I) := λ a e => by
 subst e
 refine ⟨nf,nb,λ vs ⟨o,ho,hc,_⟩ => ?_⟩
 obtain ⟨o',T,ho',hc',hT⟩ := it.live st
 rw [ho] at ho'; cases ho'
 rw [hc] at hc'
 cases hc'
 rcases hT with h | h <;> simp at h
theorem itList (hh : A.handled = none) (I l : Addr) (hne : l ≠ I) (avs : List AV) : ItOk prog w base A I avs (λ H => H l = some (.list avs)) (λ i h => h.IsListIter I l i) where
 item := λ {E s H i a Q} hi c same st hQ => by
   obtain ⟨vs,n,ho,r,e⟩ := list_at c same
   obtain ⟨v,hv,rv⟩ := vrels_get r hi
   exact wpAny_pyNext_list_item st (isList_of ho) (x := v) (by simpa using hv) λ h' hit' hs' => hQ v h' s.toks rv hit' (Beside.of_same hs')
 done := λ {E s H i Q} hi c same st hQ => by
   obtain ⟨vs,n,ho,r,e⟩ := list_at c same
   exact wpAny_pyNext_list_end hh st (isList_of ho) (by simp; exact (ar (.i (.e N0 N1) (.i (.l N1 N2) (.l N0 N2))) 3 [_,_,_] []) e hi) λ h' he => hQ h' s.toks (Beside.of_ext he)
 frame := λ st hk => st.at λ o e => hk o e
 live := λ ⟨o,ho,hc,_⟩ => ⟨o,_,ho,hc,.inl rfl⟩
 self := λ st hQ => wpAny_pyIter_listiter st hQ
theorem itRange (hh : A.handled = none) (I : Addr) (n : Nat) : ItOk prog w base A I ((List.range n).map λ (i : Nat) => .int (i : Int)) (λ _ => True) (λ i h => ∃ j,IsRangeIter h I (i : Int) ((n : Int) - (i : Nat) - j) 1 ∧ (0 < n - i → j = 0) ∧ 0 ≤ j) where
 item := λ {E s H i a Q} hi c _ st hQ => by
   obtain ⟨j,st,j0,_⟩ := st
   have hlt : i < n := by
     rw [List.getElem?_map] at hi
     cases z : (List.range n)[i]? with
     | none => rw [z] at hi; exact nn hi
     | some q => have := (List.getElem?_eq_some_iff.mp z).1; simpa using this
   have hi : a = .int (i : Int) := by
     rw [List.getElem?_map,List.getElem?_range hlt] at hi
     exact (Option.some.inj hi).symm
   subst hi
   have := j0 (by exact (ar (.i (.t N0 N1) (.t K0 (.s N1 N0))) 2 [_,_] []) hlt)
   subst this
   refine wpAny_pyNext_range_item st (by exact (ar (.i (.t N0 N1) (.T K0 (.s (.s (.u N1) (.u N0)) K0))) 2 [_,_] []) hlt) λ h' hit' hs' => hQ _ h' _ vrel_int ⟨0, ?_,λ _ => rfl,Int.le_refl _⟩ (Beside.of_same hs')
   have e2 : (n : Int) - ((i + 1 : Nat) : Int) - 0 = (n : Int) - (i : Int) - 0 - 1 := by push_cast; exact ar (.E (.s (.s (.u N0) (.a (.u N1) K1)) K0) (.s (.s (.s (.u N0) (.u N1)) K0) K1)) 2 [_,_] []
   rw [e2]; exact hit'
 done := λ {E s H i Q} hi c _ st hQ => by
   obtain ⟨j,st,j0,hj⟩ := st
   simp at hi
   exact wpAny_pyNext_range_end hh st (by exact (ar (.i (.L K0 Z0) (.i (.l N0 N1) (.L (.s (.s (.u N0) (.u N1)) Z0) K0))) 2 [_,_] [_]) hj hi) λ h' he => hQ h' s.toks (Beside.of_ext he)
 frame := λ ⟨j,st,x⟩ hk => ⟨j,hk _ st,x⟩
 live := λ ⟨j,st,_⟩ => ⟨_,_,st,rfl,.inr rfl⟩
 self := λ ⟨j,st,_⟩ hQ => wpAny_pyIter_rangeiter st hQ
end

end P_S18

section P_S19
open PySem PySem.W PySem.Calls PyProof.Rows PySem.SeqAt

section
variable {prog : Program} {w : World} {K : Frag} {base : Heap} {A : Around} {E : Value → Shared → Prop} {s : Shared} {H : AHeap} {env : Env} {sc : Sco} {ρ : Locals} {n k : Nat} {Q : AV → AHeap → Prop}
noncomputable def clOf (cells : List (Str × Addr)) : List (Str × NameKind) → List (Str × Addr) → List (Str × Addr)
 | [],acc => acc
 | (n,kd) :: r,acc => if kd == .free then clOf cells r ((n,(cells.lookup n).getD 0) :: acc) else clOf cells r acc
theorem closure_at {scope : Scope} (h : ∀ p ∈ scope.names,p.2 = .free → ∃ c,env.cells.lookup p.1 = some c) : closureFor scope env = pure (clOf env.cells scope.names []) := by
 have key : ∀ (f : Str × NameKind → List (Str × Addr) → Sem (ForInStep (List (Str × Addr)))),(∀ nm kd cs,f (nm,kd) cs = if (kd == NameKind.free) = true then (cellOf env nm >>= λ y => pure (ForInStep.yield ((nm,y) :: cs))) else pure (ForInStep.yield cs)) →
     ∀ (l : List (Str × NameKind)) (acc : List (Str × Addr)),(∀ p ∈ l,p.2 = .free → ∃ c,env.cells.lookup p.1 = some c) → forIn l acc f = (pure (clOf env.cells l acc) : Sem (List (Str × Addr))) := by
   intro f hf l
   induction l with
   | nil => intro acc _; rfl
   | cons p r ih =>
     intro acc hp
     obtain ⟨nm,kd⟩ := p
     rw [List.forIn_cons,hf]
     by_cases hk : kd = .free
     · subst hk
       obtain ⟨c,hc⟩ := hp (nm,.free) (.head _) rfl
       have hc : env.cells.lookup nm = some c := hc
       simp only [beq_self_eq_true,if_true,clOf]
       unfold cellOf
       rw [hc]
       exact ih _ λ p hm => hp p (.tail _ hm)
     · have hb : (kd == NameKind.free) = false := by simpa using hk
       simp only [hb,clOf,Bool.false_eq_true,if_false]
       exact ih _ λ p hm => hp p (.tail _ hm)
 simp only [closureFor]
 rw [key _ (λ nm kd cs => rfl) scope.names [] h]
 rfl
theorem clOf_mem {cells : List (Str × Addr)} : ∀ (l : List (Str × NameKind)) (acc : List (Str × Addr)),(∀ p ∈ l,p.2 = .free → ∃ c,cells.lookup p.1 = some c) → (∀ p ∈ acc,cells.lookup p.1 = some p.2) →
   (∀ p ∈ clOf cells l acc,cells.lookup p.1 = some p.2) ∧ (∀ p ∈ acc,p ∈ clOf cells l acc) ∧ ∀ x,(x,NameKind.free) ∈ l → ∃ c,(x,c) ∈ clOf cells l acc
 | [],acc,_,h => ⟨h,λ _ m => m,λ _ m => by cases m⟩
 | (nm,kd) :: r,acc,hp,h => by
   unfold clOf
   have hr : ∀ p ∈ r,p.2 = .free → ∃ c,cells.lookup p.1 = some c := λ p m => hp p (.tail _ m)
   by_cases hk : kd = .free
   · subst hk
     obtain ⟨c,hc⟩ := hp (nm,.free) (.head _) rfl
     simp only [beq_self_eq_true,if_true,hc,Option.getD_some]
     obtain ⟨a1,a2,a3⟩ := clOf_mem r ((nm,c) :: acc) hr λ p m => by
       rcases List.mem_cons.mp m with rfl | m
       · exact hc
       · exact h p m
     refine ⟨a1,λ p m => a2 p (.tail _ m),λ x m => ?_⟩
     rcases List.mem_cons.mp m with e | m
     · cases e; exact ⟨c,a2 _ (.head _)⟩
     · exact a3 x m
   · have hb : (kd == NameKind.free) = false := by simpa using hk
     simp only [hb,Bool.false_eq_true,if_false]
     obtain ⟨a1,a2,a3⟩ := clOf_mem r acc hr h
     refine ⟨a1,a2,λ x m => ?_⟩
     rcases List.mem_cons.mp m with e | m
     · cases e; exact absurd rfl hk
     · exact a3 x m
theorem mem_lookup {α : Type} {x : Str} {a : α} : ∀ {l : List (Str × α)},(x,a) ∈ l → ∃ b,l.lookup x = some b
 | (y,b) :: r,h => by
   rw [List.lookup_cons]
   by_cases e : x = y
   · subst e; simp
   · have hb : (x == y) = false := by simpa using e
     rw [hb]
     rcases List.mem_cons.mp h with z | z
     · cases z; exact absurd rfl e
     · exact mem_lookup z
theorem lookup_mem {α : Type} {x : Str} {a : α} : ∀ {l : List (Str × α)},l.lookup x = some a → (x,a) ∈ l
 | (y,b) :: r,h => by
   rw [List.lookup_cons] at h
   by_cases e : x = y
   · subst e; simp at h; subst h; exact .head _
   · have hb : (x == y) = false := by simpa using e
     rw [hb] at h
     exact .tail _ (lookup_mem h)
theorem idx_at {α : Type} {x : Str} {a : α} : ∀ {l : List (Str × α)},l.lookup x = some a → ∃ p,l[l.findIdx λ q => q.1 == x]? = some p ∧ p.1 = x
 | (y,b) :: r,h => by
   rw [List.lookup_cons] at h
   rw [List.findIdx_cons]
   by_cases e : x = y
   · subst e; simp
   · have hb : (x == y) = false := by simpa using e
     rw [hb] at h
     have hb' : (y == x) = false := by simpa using λ z => e z.symm
     simp only [hb',cond_false,List.getElem?_cons_succ]
     exact idx_at h
theorem idx_inj {α : Type} {x y : Str} {a b : α} {l : List (Str × α)} (hx : l.lookup x = some a) (hy : l.lookup y = some b) (e : (l.findIdx λ q => q.1 == x) = l.findIdx λ q => q.1 == y) : x = y := by
 obtain ⟨p,p1,p2⟩ := idx_at hx
 obtain ⟨q,q1,q2⟩ := idx_at hy
 rw [e] at p1
 rw [p1] at q1
 cases q1
 exact p2.symm.trans q2
theorem relabel_kind (hk : env.scope.kind = .function) (F : ∀ x,env.kindOf x = sc.kind x) {scope : Scope} (x : Str) : (relabel scope env).names.lookup x = (scoIn sc scope.names).kind x := by
 refine (?_ : (scope.names.map λ (n,k) => if (k == NameKind.free && env.scope.kind == .function && env.kindOf n == some .cell) = true then (n,NameKind.cell) else (n,k)).lookup x = if scope.names.lookup x = some .free ∧ sc.kind x = some .cell then some .cell else scope.names.lookup x)
 induction scope.names with
 | nil => simp
 | cons p r ih =>
   obtain ⟨nm,kd⟩ := p
   rw [List.map_cons,List.lookup_cons]
   by_cases e : x = nm
   · subst e
     rw [hk,F x]
     by_cases hf : kd = .free
     · subst hf
       by_cases hc : sc.kind x = some .cell
       · simp [hc]
       · have : (sc.kind x == some NameKind.cell) = false := by simpa using hc
         simp [hc,this]
     · have hb : (kd == NameKind.free) = false := by simpa using hf
       simp [hb,hf]
   · have hb : (x == nm) = false := by simpa using e
     rw [List.lookup_cons,hb]
     have hf : x == (if (kd == NameKind.free && env.scope.kind == .function && env.kindOf nm == some .cell) = true then (nm,NameKind.cell) else (nm,kd)).1 ↔ False := by
       split <;> simp [e]
     have hf' : (x == (if (kd == NameKind.free && env.scope.kind == .function && env.kindOf nm == some .cell) = true then (nm,NameKind.cell) else (nm,kd)).1) = false := by
       rw [← Bool.not_eq_true]; exact λ z => hf.mp z
     simp only [hf']
     exact ih
structure CompNames (sc : Sco) (t it : PySem.Expr) (scope : Scope) : Prop where
 kind : scope.kind = .function
 noSet : isSet it = false
 dbg : scope.names.lookup (Str.ofString "__debug__") = none
 loc : ∀ x,scope.names.lookup x = some .local → x ≠ Str.ofString ".0" → x ∈ targetNames t
 nodup : ∀ p ∈ scope.names,p.2 = .local → scope.names.lookup p.1 = some .local
 free : ∀ p ∈ scope.names,p.2 = .free → sc.kind p.1 = some .cell ∧ ∃ i,sc.code p.1 = some i ∧ i < 100
 cell : ∀ p ∈ scope.names,p.2 ≠ .cell
theorem compOk_names {t it : PySem.Expr} {scope : Scope} (h : compOk sc t it scope = true) : CompNames sc t it scope := by
 unfold compOk at h
 simp only [Bool.and_eq_true] at h
 obtain ⟨⟨⟨h1,h2⟩,h3⟩,h4⟩ := h
 rw [List.all_eq_true] at h4
 refine ⟨by simpa using h1,by simpa using h2,by simpa using h3,λ x hx h0 => ?_,λ p hp hl => ?_,λ p hp hl => ?_,λ p hp hl => ?_⟩
 · have := h4 _ (lookup_mem hx)
   simp only [Bool.and_eq_true,Bool.or_eq_true] at this
   rcases this.1 with z | z
   · exact absurd (by simpa using z) h0
   · simpa using z
 · obtain ⟨x,kd⟩ := p
   cases hl
   have := h4 _ hp
   simp only [Bool.and_eq_true] at this
   simpa using this.2
 · obtain ⟨x,kd⟩ := p
   cases hl
   have := h4 _ hp
   simp only [Bool.and_eq_true] at this
   refine ⟨by simpa using this.1, ?_⟩
   have := this.2
   cases q : sc.code x with
   | none => simp [q] at this
   | some i => simp [q] at this; exact ⟨i,rfl,this⟩
 · obtain ⟨x,kd⟩ := p
   cases hl
   have := h4 _ hp
   simp at this
theorem names_in {es : List PySem.Expr} : ∀ {xs : List Nat},namesCodes? sc es = some xs → ∀ x i,x ∈ targetNames (.Tuple es 0 default) → sc.code x = some i → i ∈ xs := by
 induction es with
 | nil => intro xs h x i hx; cases hx
 | cons e es ih =>
   intro xs h x i hx hi
   obtain ⟨c,cs,rfl,h1,h2⟩ := namesCodes_cons h
   obtain ⟨id,p,rfl,hk,hc⟩ := nameCode_of h1
   have hx : x ∈ id :: targetNames (.Tuple es 0 default) := hx
   rcases List.mem_cons.mp hx with rfl | hx
   · rw [hc] at hi; cases hi; exact .head _
   · exact .tail _ (ih h2 x i hx hi)
theorem target_in {t : PySem.Expr} {xs : List Nat} {one : Bool} (ht : target? sc t = some (xs,one)) : ∀ x i,x ∈ targetNames t → sc.code x = some i → i ∈ xs := by
 rcases target_cases ht with ⟨id,p,j,rfl,hk,hc,rfl,rfl⟩ | ⟨es,x1,p,rfl,hn,rfl⟩
 · intro x i hx hi
   obtain rfl := List.mem_singleton.mp (show x ∈ [id] from hx)
   rw [hc] at hi; cases hi; exact .head _
 · exact λ x i hx hi => names_in hn x i hx hi
theorem codes_local {es : List PySem.Expr} : ∀ {xs : List Nat},namesCodes? sc es = some xs → ∀ i ∈ xs,∃ x,sc.code x = some i ∧ sc.kind x = some .local := by
 induction es with
 | nil => intro xs h i hi; cases h; cases hi
 | cons e es ih =>
   intro xs h i hi
   obtain ⟨c,cs,rfl,h1,h2⟩ := namesCodes_cons h
   obtain ⟨id,p,rfl,hk,hc⟩ := nameCode_of h1
   rcases List.mem_cons.mp hi with rfl | hi
   · exact ⟨id,hc,hk⟩
   · exact ih h2 i hi
theorem target_local {t : PySem.Expr} {xs : List Nat} {one : Bool} (ht : target? sc t = some (xs,one)) : ∀ i ∈ xs,∃ x,sc.code x = some i ∧ sc.kind x = some .local := by
 rcases target_cases ht with ⟨id,p,j,rfl,hk,hc,rfl,rfl⟩ | ⟨es,x1,p,rfl,hn,rfl⟩
 · intro i hi
   obtain rfl := List.mem_singleton.mp hi
   exact ⟨id,hc,hk⟩
 · exact codes_local hn
theorem frame_in {t it : PySem.Expr} {scope : Scope} {xs : List Nat} {one : Bool} {C : Addr} {h' : Heap} (F : FrameRel env sc ρ H h') (N : CompNames sc t it scope) (ht : target? (scoIn sc scope.names) t = some (xs,one))
   (hC : h'.Ns C λ _ => none) (nf : ¬ foot H C) (nc : ∀ x i c,sc.code x = some i → sc.kind x = some .cell → env.cells.lookup x = some c → c ≠ C) :
   FrameRel (compEnvC scope (clOf env.cells scope.names []) C env) (scoIn sc scope.names) (λ i => if i ∈ xs then none else ρ i) H h' := by
 have cells : ∀ x,scope.names.lookup x = some .free → ∃ c,(clOf env.cells scope.names []).lookup x = some c ∧ env.cells.lookup x = some c := λ x hx => by
   obtain ⟨a1,a2,a3⟩ := clOf_mem (cells := env.cells) scope.names [] (λ p hp hl => by
     obtain ⟨b1,i,b2,_⟩ := N.free p hp hl
     obtain ⟨c,v,e,_⟩ := F.cel _ i b2 b1
     exact ⟨c,e⟩) (λ p m => by cases m)
   obtain ⟨c,hc⟩ := a3 x (lookup_mem hx)
   obtain ⟨c',hc'⟩ := mem_lookup hc
   exact ⟨c',hc',a1 _ (lookup_mem hc')⟩
 have kinds : ∀ x,(scoIn sc scope.names).kind x = some .cell → scope.names.lookup x = some .free ∧ sc.kind x = some .cell := λ x hx => by
   have hx : (if scope.names.lookup x = some .free ∧ sc.kind x = some .cell then some NameKind.cell else scope.names.lookup x) = some .cell := hx
   split at hx
   · assumption
   · exact absurd rfl (N.cell _ (lookup_mem hx))
 have kindl : ∀ x,(scoIn sc scope.names).kind x = some .local → scope.names.lookup x = some .local := λ x hx => by
   have hx : (if scope.names.lookup x = some .free ∧ sc.kind x = some .cell then some NameKind.cell else scope.names.lookup x) = some .local := hx
   split at hx
   · cases hx
   · exact hx
 have codel : ∀ x i,scope.names.lookup x = some .local → (scoIn sc scope.names).code x = some i → i = 100 + idxOf scope.names x ∧ x ≠ Str.ofString ".0" := λ x i hl hi => by
   have hi : (if scope.names.lookup x = some .local ∧ x ≠ Str.ofString ".0" then some (100 + idxOf scope.names x) else if scope.names.lookup x = some .free ∧ sc.kind x = some .cell then sc.code x else none) = some i := hi
   split at hi
   · rename_i z; exact ⟨(Option.some.inj hi).symm,z.2⟩
   · rw [if_neg (by rw [hl]; intro z; cases z.1)] at hi; exact nn hi
 have codec : ∀ x i,scope.names.lookup x = some .free → (scoIn sc scope.names).code x = some i → sc.code x = some i ∧ i < 100 ∧ sc.kind x = some .cell := λ x i hl hi => by
   have hi : (if scope.names.lookup x = some .local ∧ x ≠ Str.ofString ".0" then some (100 + idxOf scope.names x) else if scope.names.lookup x = some .free ∧ sc.kind x = some .cell then sc.code x else none) = some i := hi
   rw [if_neg (by rw [hl]; intro z; cases z.1)] at hi
   split at hi
   · rename_i z
     obtain ⟨b1,j,b2,b3⟩ := N.free _ (lookup_mem hl) rfl
     have b2 : sc.code x = some j := b2
     rw [b2] at hi
     cases hi
     exact ⟨b2,b3,z.2⟩
   · exact nn hi
 have code : ∀ x i,(scoIn sc scope.names).code x = some i → scope.names.lookup x = some .local ∨ scope.names.lookup x = some .free := λ x i hi => by
   by_cases hl : scope.names.lookup x = some .local
   · exact .inl hl
   · have hi : (if scope.names.lookup x = some .local ∧ x ≠ Str.ofString ".0" then some (100 + idxOf scope.names x) else if scope.names.lookup x = some .free ∧ sc.kind x = some .cell then sc.code x else none) = some i := hi
     rw [if_neg λ z => hl z.1] at hi
     split at hi
     · rename_i z; exact .inr z.1
     · exact nn hi
 refine ⟨N.kind,λ x => relabel_kind F.kind F.names x,F.glob,F.blt,λ x i hi => ?_,λ x y i hx hy => ?_,⟨_,hC,λ x i hi hk => ?_⟩,λ x i hi hk => ?_,nf,λ x i c hi hk hc => ?_,λ x y i j c hi hk hj hk' hc hc' => ?_, ?_⟩
 · rcases code x i hi with hl | hl
   · left
     refine (?_ : (if scope.names.lookup x = some .free ∧ sc.kind x = some .cell then some NameKind.cell else scope.names.lookup x) = some .local)
     rw [if_neg (by rw [hl]; intro z; cases z.1)]; exact hl
   · right
     obtain ⟨_,_,z⟩ := codec x i hl hi
     refine (?_ : (if scope.names.lookup x = some .free ∧ sc.kind x = some .cell then some NameKind.cell else scope.names.lookup x) = some .cell)
     rw [if_pos ⟨hl,z⟩]
 · rcases code x i hx with hl | hl <;> rcases code y i hy with hl' | hl'
   · have e1 := (codel x i hl hx).1
     have e2 := (codel y i hl' hy).1
     exact idx_inj hl hl' (by refine (?_ : idxOf scope.names x = idxOf scope.names y); exact (ar (.i (.e N0 (.a (.k 100) N1)) (.i (.e N0 (.a (.k 100) N2)) (.e N2 N1))) 3 [_,_,_] []) e2 e1)
   · have e1 := (codel x i hl hx).1
     obtain ⟨_,z,_⟩ := codec y i hl' hy
     omega
   · have e1 := (codel y i hl' hy).1
     obtain ⟨_,z,_⟩ := codec x i hl hx
     omega
   · exact F.inj x y i (codec x i hl hx).1 (codec y i hl' hy).1
 · have hm : i ∈ xs := target_in ht x i (N.loc x (kindl x hk) (codel x i (kindl x hk) hi).2) hi
   refine (?_ : orel h' (foot H) (if i ∈ xs then none else ρ i) none)
   rw [if_pos hm]; exact rfl
 · obtain ⟨hl,z⟩ := kinds x hk
   obtain ⟨e1,e2,_⟩ := codec x i hl hi
   obtain ⟨c,v,f1,f2,f3⟩ := F.cel x i e1 z
   obtain ⟨c',g1,g2⟩ := cells x hl
   rw [f1] at g2; cases g2
   refine ⟨c,v,g1,f2, ?_⟩
   have hm : i ∉ xs := λ hm => by
     obtain ⟨y,y1,y2⟩ := target_local ht i hm
     have := (codel y i (kindl y y2) y1).1
     exact (False.elim ((ar (.i (.e N0 (.a (.k 100) N1)) (.i (.t N0 (.k 100)) .f)) 2 [_,_] []) this e2))
   refine (?_ : orel h' (foot H) (if i ∈ xs then none else ρ i) v)
   rw [if_neg hm]; exact f3
 · obtain ⟨hl,z⟩ := kinds x hk
   obtain ⟨e1,e2,_⟩ := codec x i hl hi
   obtain ⟨c',g1,g2⟩ := cells x hl
   have hc : (clOf env.cells scope.names []).lookup x = some c := hc
   rw [g1] at hc; cases hc
   exact ⟨(F.offc x i _ e1 z g2).1,nc x i _ e1 z g2⟩
 · obtain ⟨hl,z⟩ := kinds x hk
   obtain ⟨e1,e2,_⟩ := codec x i hl hi
   obtain ⟨c',g1,g2⟩ := cells x hl
   have hc : (clOf env.cells scope.names []).lookup x = some c := hc
   rw [g1] at hc; cases hc
   obtain ⟨hl',z'⟩ := kinds y hk'
   obtain ⟨e1',e2',_⟩ := codec y j hl' hj
   obtain ⟨c'',g1',g2'⟩ := cells y hl'
   have hc' : (clOf env.cells scope.names []).lookup y = some _ := hc'
   rw [g1'] at hc'; cases hc'
   exact F.apart x y i j _ e1 z e1' z' g2 g2'
 · refine ⟨?_, ?_⟩
   · refine (?_ : (if scope.names.lookup _ = some .free ∧ sc.kind _ = some .cell then some NameKind.cell else scope.names.lookup _) = none)
     rw [if_neg (by rw [N.dbg]; intro z; cases z.1)]; exact N.dbg
   · show (if scope.names.lookup _ = some .local ∧ _ ≠ _ then some (100 + idxOf scope.names _) else if scope.names.lookup _ = some .free ∧ sc.kind _ = some .cell then sc.code _ else none) = none
     rw [if_neg (by rw [N.dbg]; intro z; cases z.1),if_neg (by rw [N.dbg]; intro z; cases z.1)]
end

end P_S19

section P_S20
open PySem PySem.W PySem.Calls PyProof.Rows PySem.SeqAt

section
variable {prog : Program} {w : World} {K : Frag} {base : Heap} {A : Around} {E : Value → Shared → Prop} {s : Shared} {H : AHeap} {env : Env} {sc : Sco} {ρ : Locals} {n k : Nat} {Q : AV → AHeap → Prop}
theorem upds_agree : ∀ {xs : List Nat} {as : List AV} {ρ ρ' : Locals},xs.length = as.length → (∀ i,i ∉ xs → ρ' i = ρ i) → upds ρ' xs as = upds ρ xs as
 | [],[],ρ,ρ',_,h => funext λ i => h i (by simp)
 | [],_ :: _,_,_,e,_ => by cases e
 | _ :: _,[],_,_,e,_ => by cases e
 | x :: xs,a :: as,ρ,ρ',e,h => upds_agree (ρ := upd ρ x a) (ρ' := upd ρ' x a) (by simpa using e) λ i hi => by
   by_cases z : i = x
   · subst z; rw [upd_same,upd_same]
   · rw [upd_other _ _ z,upd_other _ _ z]; exact h i (by simp [z,hi])
theorem upds_off : ∀ {xs : List Nat} {as : List AV} {ρ : Locals} {i : Nat},i ∉ xs → upds ρ xs as i = ρ i
 | [],as,ρ,i,_ => by cases as <;> rfl
 | x :: xs,[],ρ,i,_ => rfl
 | x :: xs,a :: as,ρ,i,h => by
   refine (?_ : upds (upd ρ x a) xs as i = ρ i)
   rw [upds_off (λ z => h (.tail _ z))]
   exact upd_other _ _ λ z => h (z ▸ .head _)
theorem bindT_agree {xs : List Nat} {one : Bool} {a : AV} {ρ ρ' ρ₁ : Locals} (h : bindT xs one ρ a = some ρ₁) (g : ∀ i,i ∉ xs → ρ' i = ρ i) : bindT xs one ρ' a = some ρ₁ ∧ ∀ i,i ∉ xs → ρ₁ i = ρ i := by
 cases one with
 | true =>
   match xs,h,g with
   | [x],h,g =>
     have h : some (upd ρ x a) = some ρ₁ := h
     cases h
     have : upd ρ' x a = upd ρ x a := upds_agree (xs := [x]) (as := [a]) rfl g
     exact ⟨by refine (?_ : some (upd ρ' x a) = _); rw [this],λ i hi => upd_other _ _ λ z => hi (z ▸ .head _)⟩
 | false =>
   cases a <;> first | exact nn h | exact ft h | (cases h; done) | skip
   rename_i vs
   have h : (if xs.length = vs.length then some (upds ρ xs vs) else none) = some ρ₁ := h
   split at h
   · rename_i e
     cases h
     exact ⟨by refine (?_ : (if xs.length = vs.length then some (upds ρ' xs vs) else none) = _); rw [if_pos e,upds_agree e g],λ i hi => upds_off hi⟩
   · exact nn h
theorem FrameRel.beside {X : Addr → Prop} {h h' : Heap} (F : FrameRel env sc ρ H h) (p : Priv base H h X) (b : Beside X h h') (nl : ¬ X env.locals) (ncl : ∀ x i c,sc.code x = some i → sc.kind x = some .cell → env.cells.lookup x = some c → ¬ X c) : FrameRel env sc ρ H h' := by
 have tm := b.tm p
 refine ⟨F.kind,F.names,F.glob,F.blt,F.code,F.inj, ?_,λ x i hi hk => ?_,F.off,F.offc,F.apart,F.dbg⟩
 · obtain ⟨m,⟨o,es,ep,ho,r⟩,q⟩ := F.loc
   exact ⟨m,⟨o,es,ep,b _ _ nl ho,r⟩,λ x i hi hk => orel_tm tm (q x i hi hk)⟩
 · obtain ⟨c,v,e,⟨o,ho,r⟩,q⟩ := F.cel x i hi hk
   exact ⟨c,v,e,⟨o,b _ _ (ncl x i c hi hk e) ho,r⟩,orel_tm tm q⟩
theorem Conc.adopt {h : Heap} (c : Conc prog w base H h) {D : Addr} {xs : List AV} {vs : List Value} (nf : ¬ foot H D) (nb : base.get? D = none) (l : h.PlainList D vs.toArray) (r : vrels h (foot H) xs vs) :
   Conc prog w base (H.set D (.list xs)) h ∧ ∀ b,foot (H.set D (.list xs)) b ↔ foot H b ∨ b = D := by
 have Hn : H D = none := by
   cases e : H D with
   | none => rfl
   | some o =>
     by_cases z : ∃ xs,o = .flist xs
     · obtain ⟨xs,rfl⟩ := z
       obtain ⟨o',e'⟩ := c.held D xs e
       rw [nb] at e'; exact nn e'
     · exact absurd (.inl ⟨o,e,λ xs e' => z ⟨xs,e'⟩⟩) nf
 have hf := λ b => foot_new (o := .list xs) Hn rfl b
 have tm : ∀ a vs,h.IsTuple a vs → ¬ foot H a → h.IsTuple a vs ∧ ¬ foot (H.set D (.list xs)) a := λ a vs t n => ⟨t,λ f => ((hf a).mp f).elim n λ z => plain_no_tuple l vs (z ▸ t)⟩
 have old : ∀ {x C k d F},(H.set D (.list xs)) x = some (.inst C k d F) → H x = some (.inst C k d F) := λ {x C k d F} e => by
   by_cases z : x = D
   · subst z; rw [set_same] at e; cases e
   · rwa [set_other H _ z] at e
 refine ⟨⟨c.keep,λ a o e => ?_,λ a f => ?_,λ x y C k d F C' k' F' e1 e2 => c.inj x y C k d F C' k' F' (old e1) (old e2),λ x C k d F e => ?_,λ x ys e => ?_⟩,hf⟩
 · by_cases z : a = D
   · subst z; rw [set_same] at e; cases e
     exact ⟨vs,l,vrels_tm tm r⟩
   · rw [set_other H _ z] at e
     exact RObj_tm tm (c.obj a o e) rfl λ _ _ _ _ _ => rfl
 · rcases (hf a).mp f with f | z
   · exact c.own a f
   · rw [z]; exact nb
 · have e' := old e
   have : d ≠ D := λ z => nf (z ▸ .inr ⟨x,C,k,F,e'⟩)
   rw [set_other H _ this]; exact c.apart x C k d F e'
 · by_cases z : x = D
   · subst z; rw [set_same] at e; cases e
   · rw [set_other H _ z] at e; exact c.held x ys e
theorem codeAny_compLoop_any {elt target iter : PySem.Expr} {ifs : List PySem.Expr} {scope : Scope} {pos : Pos} {it acc : Value} {env : Env} {R : Result → Shared → Prop} (I : Nat → Shared → Prop)
   (turn : ∀ n s,I n s → wpAny (model prog w) A (pyNext it) (λ r s₁ => match r with
     | none => R (.ok .next) s₁
     | some v => wpAny (model prog w) A (letOwnedTupleGo target it v) (λ _ s₁' => wpAny (model prog w) A (assign target env v) (λ _ s₂ =>
         wpAny (model prog w) A (forIn ifs true λ c r => if r = true then do let ok ← isTrue c env (eval c env); pure (ForInStep.yield ok) else pure (ForInStep.yield r)) (λ ok s₃ =>
           if ok = true then wpAny (model prog w) A (eval elt env) (λ x s₄ =>
             wpAny (model prog w) A (call (.builtin "list.append") [acc,x]) (λ _ s₅ => ∃ m,m < n ∧ I m s₅) (notedBy (model prog w) A env λ e s' => R (.error e) s') s₄) (notedBy (model prog w) A env λ e s' => R (.error e) s') s₃
           else ∃ m,m < n ∧ I m s₃) (notedBy (model prog w) A env λ e s' => R (.error e) s') s₂) (notedBy (model prog w) A env λ e s' => R (.error e) s') s₁') (notedBy (model prog w) A env λ e s' => R (.error e) s') s₁) (notedBy (model prog w) A env λ e s' => R (.error e) s') s)
   (n : Nat) {s : Shared} (h : I n s) :
   codeAny (model prog w) A (.compLoop (.ListComp elt [⟨target,iter,ifs,0⟩] scope pos) 0 it acc env) R s := by
 refine codeAny_loop rfl I (λ n s hI => ?_) n h
 refine (?_ : wpAny _ A ((compTurn (.ListComp elt [⟨target,iter,ifs,0⟩] scope pos) 0 it acc env).onRaise (λ x => do noteFrame x env; theTreesLotGoes x)) _ _ s)
 refine wpAny_noted ?_
 rw [compTurn_list]
 refine wpAny_bind (wpAny_standAt (wpAny_bind (wpAny_mono (turn n s hI) (λ r s₁ h₁ => ?_) λ _ _ x => x)))
 cases r with
 | none => exact wpAny_pure h₁
 | some v =>
   refine wpAny_bind (wpAny_mono h₁ (λ _ s₁' h₁' => ?_) λ _ _ x => x)
   refine wpAny_bind (wpAny_mono h₁' (λ _ s₂ h₂ => wpAny_bind (wpAny_mono h₂ (λ ok s₃ h₃ => ?_) λ _ _ x => x)) λ _ _ x => x)
   cases ok
   · exact wpAny_pure ⟨rfl,h₃⟩
   · exact wpAny_bind (wpAny_bind (wpAny_mono h₃ (λ x s₄ h₄ => wpAny_bind (wpAny_mono h₄ (λ _ s₅ h₅ => wpAny_pure (wpAny_pure ⟨rfl,h₅⟩)) λ _ _ x => x)) λ _ _ x => x))
structure CompInv (prog : Program) (w : World) (base : Heap) (H₁ : AHeap) (h₁ : Heap) (I D : Addr) (cenv : Env) (sc : Sco) (xs : List Nat) (ρ : Locals) (St : Nat → Heap → Prop) (j : Nat) (ys : List AV) (H : AHeap) (h : Heap) : Prop where
 c : Conc prog w base H h
 st : Step noX H₁ h₁ H h
 F : ∃ ρc,FrameRel cenv sc ρc H h ∧ ∀ i,i ∉ xs → ρc i = ρ i
 it : St j h
 acc : ∃ vs,h.PlainList D vs.toArray ∧ vrels h (foot H) ys vs
 nI : ¬ foot H I
 nD : ¬ foot H D
inductive LoopI (Inv : Nat → List AV → AHeap → Heap → Prop) (same : AHeap → Prop) (Go : List AV → List AV → AHeap → Prop) (avs : List AV) (s : Shared) (m : Nat) (s' : Shared) : Prop
 | mk (j : Nat) (ys : List AV) (H : AHeap) (h : Heap) (tk : Nat) (e : s' = { s with heap := h,toks := tk }) (em : m = avs.length - j) (hj : j ≤ avs.length) (hs : same H) (V : Inv j ys H h) (hm : Go (avs.drop j) ys H)
theorem comp_loop {avs : List AV} {same : AHeap → Prop} {St : Nat → Heap → Prop} {I D : Addr} {elt t iter : PySem.Expr} {ifs : List PySem.Expr} {cond : Option ME} {scope : Scope} {pos : Pos} {cenv : Env} {xs : List Nat} {one : Bool} {H₁ : AHeap} {h₁ : Heap} {R : Result → Shared → Prop}
   {kk : List AV → AHeap → Prop} (hR : Re A n k) (ok : ItOk prog w base A I avs same St) (ht : target? sc t = some (xs,one))
   (hif : (ifs = [] ∧ cond = none) ∨ ∃ c,ifs = [c] ∧ cond = some (cE k sc c) ∧ ST prog w base n k sc c (cE k sc c)) (he : SE prog w base n k sc elt (cE k sc elt))
   (hbI : base.get? I = none) (hbD : base.get? D = none) (hbC : base.get? cenv.locals = none) (h1I : h₁.get? I = none) (h1D : h₁.get? D = none) (h1C : h₁.get? cenv.locals = none)
   (dIC : I ≠ cenv.locals) (dDC : D ≠ cenv.locals) (dID : I ≠ D) (dcI : ∀ x i c,sc.code x = some i → sc.kind x = some .cell → cenv.cells.lookup x = some c → c ≠ I ∧ c ≠ D)
   (fin : ∀ ys H h tk,CompInv prog w base H₁ h₁ I D cenv sc xs ρ St avs.length ys H h → kk ys H → ∀ h',Beside (· = I) h h' → R (.ok .next) { s with heap := h',toks := tk })
   {H₂ : AHeap} {h₂ : Heap} {tk₂ : Nat} (inv : CompInv prog w base H₁ h₁ I D cenv sc xs ρ St 0 [] H₂ h₂) (hsame : same H₂)
   (h : mComp (bindT xs one) ρ (λ ρ' H k => mC (RC prog w base n) cond ρ' H k) (λ ρ' H k' => mE (RC prog w base n) (cE k sc elt) ρ' H k') same avs [] H₂ kk) :
   codeAny (model prog w) A (.compLoop (.ListComp elt [⟨t,iter,ifs,0⟩] scope pos) 0 (.ref I) (.ref D) cenv) R { s with heap := h₂,toks := tk₂ } := by
 refine codeAny_compLoop_any (LoopI (CompInv prog w base H₁ h₁ I D cenv sc xs ρ St) same (λ l ys H => mComp (bindT xs one) ρ (λ ρ' H k => mC (RC prog w base n) cond ρ' H k) (λ ρ' H k' => mE (RC prog w base n) (cE k sc elt) ρ' H k') same l ys H kk) avs s) ?_ (avs.length - 0)
   ⟨0,[],H₂,h₂,tk₂,rfl,rfl,Nat.zero_le _,hsame,inv,h⟩
 rintro m s' ⟨j,ys,H,hh,tk,rfl,rfl,hj,hsame,V,hm⟩
 by_cases hlt : j < avs.length
 · have hd : avs.drop j = avs[j] :: avs.drop (j + 1) := List.drop_eq_getElem_cons hlt
   rw [hd] at hm
   obtain ⟨ρ',hb,hc⟩ := hm
   refine ok.item (i := j) (a := avs[j]) (H := H) (by simp) V.c hsame V.it λ v h₃ tk₃ rv it₃ b₃ => ?_
   have pI : Priv base H hh (· = I) := ok.priv V.it ok V.nI hbI
   obtain ⟨ρc,F,ag⟩ := V.F
   obtain ⟨vs,lD,rD⟩ := V.acc
   have tm₃ := b₃.tm pI
   have c₃ := V.c.beside pI b₃
   have F₃ : FrameRel cenv sc ρc H h₃ := F.beside pI b₃ (Ne.symm dIC) λ x i c hi hk hc => (dcI x i c hi hk hc).1
   have st₃ : Step noX H₁ h₁ H h₃ := V.st.then_beside b₃ λ y e => e ▸ h1I
   have lD₃ : h₃.PlainList D vs.toArray := by obtain ⟨q,e⟩ := lD; exact ⟨q,b₃ D _ (Ne.symm dID) e⟩
   have rD₃ : vrels h₃ (foot H) ys vs := vrels_tm tm₃ rD
   obtain ⟨o,T,ho,hcl,hT⟩ := ok.live it₃
   refine wpAny_letOwned (s := { s with heap := h₃,toks := tk₃ }) ho hcl hT ?_
   obtain ⟨bt,ag'⟩ := bindT_agree hb ag
   refine assign_target (s := { s with heap := h₃,toks := tk₃ }) hR.handled hbC ht bt c₃ F₃ (vrel_tm tm₃ rv) λ h₄ tk₄ c₄ F₄ st₄ => ?_
   have pC : Priv base H h₃ (· = cenv.locals) := λ a e => by
     subst e
     obtain ⟨m,hn,_⟩ := F₃.loc
     exact ⟨F₃.off,hbC,ns_no_tuple hn⟩
   have b₄ : ∀ a o,a ≠ cenv.locals → ¬ foot H a → h₃.get? a = some o → h₄.get? a = some o := λ a o na nf e => st₄.keep a o e nf na
   have tm₄ : ∀ a vs,h₃.IsTuple a vs → ¬ foot H a → h₄.IsTuple a vs ∧ ¬ foot H a := λ a vs t nf => by
     have na : a ≠ cenv.locals := λ z => (pC a z).2.2 vs t
     obtain ⟨o,ho,r⟩ := t
     exact ⟨⟨o,b₄ a o na nf ho,r⟩,nf⟩
   have st₄' : Step noX H₁ h₁ H h₄ := by
     refine ⟨λ b o e nf _ => ?_,V.st.foot,λ b o e => ?_⟩
     · have := st₃.keep b o e nf id
       have nb : b ≠ cenv.locals := λ z => by rw [z,h1C] at e; exact nn e
       have nf' : ¬ foot H b := (st₃.mono b o e nf).2
       exact b₄ b o nb nf' this
     · obtain ⟨o',e'⟩ := st₃.live b o e
       exact st₄.live b o' e'
   have it₄ : St (j + 1) h₄ := ok.frame it₃ λ o e => b₄ I o dIC V.nI e
   have lD₄ : h₄.PlainList D vs.toArray := by obtain ⟨q,e⟩ := lD₃; exact ⟨q,b₄ D _ dDC V.nD e⟩
   have rD₄ : vrels h₄ (foot H) ys vs := vrels_tm tm₄ rD₃
   have next : ∀ (ys' : List AV) (vs' : List Value) (H' : AHeap) (h' : Heap) (tk' : Nat),Conc prog w base H' h' → Step noX H₁ h₁ H' h' → FrameRel cenv sc ρ' H' h' → St (j + 1) h' → h'.PlainList D vs'.toArray → vrels h' (foot H') ys' vs' → ¬ foot H' I → ¬ foot H' D → same H' →
       mComp (bindT xs one) ρ (λ ρ' H k => mC (RC prog w base n) cond ρ' H k) (λ ρ' H k' => mE (RC prog w base n) (cE k sc elt) ρ' H k') same (avs.drop (j + 1)) ys' H' kk →
       ∃ m,m < avs.length - j ∧ LoopI (CompInv prog w base H₁ h₁ I D cenv sc xs ρ St) same (λ l ys H => mComp (bindT xs one) ρ (λ ρ' H k => mC (RC prog w base n) cond ρ' H k) (λ ρ' H k' => mE (RC prog w base n) (cE k sc elt) ρ' H k') same l ys H kk) avs s m { s with heap := h',toks := tk' } := by
     intro ys' vs' H' h' tk' c' st' F' it' l' r' nI nD hs' hm'
     exact ⟨avs.length - (j + 1),by exact (ar (.i (.t N0 N1) (.t (.s N1 (.a N0 K1)) (.s N1 N0))) 2 [_,_] []) hlt,j + 1,ys',H',h',tk',rfl,rfl,hlt,hs',⟨c',st',⟨ρ',F',ag'⟩,it',⟨vs',l',r'⟩,nI,nD⟩,hm'⟩
   have live4 : ∀ {b : Addr},(∃ o,h₄.get? b = some o) → True := λ _ => trivial
   have test : wpAny (model prog w) A (forIn ifs true λ c r => if r = true then do let ok ← isTrue c cenv (eval c cenv); pure (ForInStep.yield ok) else pure (ForInStep.yield r))
       (EP prog w eqr base { s with heap := h₄,toks := tk₄ } H (λ b H₁ => match b with
         | true => mE (RC prog w base n) (cE k sc elt) ρ' H₁ λ y H₂ => same H₂ ∧ ys.length < lim ∧ mComp (bindT xs one) ρ (λ ρ' H k => mC (RC prog w base n) cond ρ' H k) (λ ρ' H k' => mE (RC prog w base n) (cE k sc elt) ρ' H k') same (avs.drop (j + 1)) (ys ++ [y]) H₂ kk
         | false => same H₁ ∧ mComp (bindT xs one) ρ (λ ρ' H k => mC (RC prog w base n) cond ρ' H k) (λ ρ' H k' => mE (RC prog w base n) (cE k sc elt) ρ' H k') same (avs.drop (j + 1)) ys H₁ kk))
       (notedBy (model prog w) A cenv λ e s' => R (.error e) s') { s with heap := h₄,toks := tk₄ } := by
     rcases hif with ⟨rfl,rfl⟩ | ⟨c,rfl,rfl,hST⟩
     · exact wpAny_tests_nil (EP.here (s := { s with heap := h₄,toks := tk₄ }) c₄ rfl hc)
     · exact wpAny_tests_one (hST (s := { s with heap := h₄,toks := tk₄ }) hR c₄ F₄ hc)
   refine wpAny_mono test (λ b s₅ p => ?_) λ _ _ x => x
   obtain ⟨b',H₅,h₅,tk₅,rfl,c₅,st₅,e₅,q₅⟩ := p
   cases e₅
   have keep₅ : ∀ a o,h₄.get? a = some o → ¬ foot H a → h₅.get? a = some o ∧ ¬ foot H₅ a := st₅.mono
   have it₅ : St (j + 1) h₅ := ok.frame it₄ λ o e => (keep₅ I o e V.nI).1
   have lI₄ : ∃ o,h₄.get? I = some o := let ⟨o,_,e,_⟩ := ok.live it₄; ⟨o,e⟩
   have nI₅ : ¬ foot H₅ I := let ⟨o,e⟩ := lI₄; (keep₅ I o e V.nI).2
   have nD₅ : ¬ foot H₅ D := let ⟨_,e⟩ := lD₄; (keep₅ D _ e V.nD).2
   have lD₅ : h₅.PlainList D vs.toArray := by obtain ⟨q,e⟩ := lD₄; exact ⟨q,(keep₅ D _ e V.nD).1⟩
   have rD₅ := vrels_step st₅ rD₄
   have F₅ := F₄.step st₅
   have st₅' := st₄'.trans st₅
   cases b with
   | false =>
     simp only [Bool.false_eq_true,if_false]
     exact next ys vs H₅ h₅ tk₅ c₅ st₅' F₅ it₅ lD₅ rD₅ nI₅ nD₅ q₅.1 q₅.2
   | true =>
     simp only [if_true]
     refine monoP (he (s := { s with heap := h₅,toks := tk₅ }) hR c₅ F₅ q₅) λ y yv H₆ h₆ tk₆ c₆ st₆ r₆ q₆ => ?_
     obtain ⟨hs₆,hlim,hm₆⟩ := q₆
     have keep₆ : ∀ a o,h₅.get? a = some o → ¬ foot H₅ a → h₆.get? a = some o ∧ ¬ foot H₆ a := st₆.mono
     have it₆ : St (j + 1) h₆ := ok.frame it₅ λ o e => (keep₆ I o e nI₅).1
     have nI₆ : ¬ foot H₆ I := let ⟨o,_,e,_⟩ := ok.live it₅; (keep₆ I o e nI₅).2
     have nD₆ : ¬ foot H₆ D := let ⟨_,e⟩ := lD₅; (keep₆ D _ e nD₅).2
     have lD₆ : h₆.PlainList D vs.toArray := by obtain ⟨q,e⟩ := lD₅; exact ⟨q,(keep₆ D _ e nD₅).1⟩
     have rD₆ := vrels_step st₆ rD₅
     have hl : vs.length < lim := by rw [vrels_length rD₆]; exact hlim
     unfold lim at hl
     refine wpAny_list_append_plain (s := { s with heap := h₆,toks := tk₆ }) lD₆ (λ h₇ hp₇ hs₇ => ?_) (by rw [List.size_toArray,sizeLine_eq]; exact (ar (.i (.t N0 KM) (.l N0 (.k 16777216))) 1 [_] []) hl)
     have b₇ : Beside (· = D) h₆ h₇ := Beside.of_same hs₇
     have pD : Priv base H₆ h₆ (· = D) := λ a e => by subst e; exact ⟨nD₆,hbD,plain_no_tuple lD₆⟩
     refine next (ys ++ [y]) (vs ++ [yv]) H₆ h₇ tk₆ (c₆.beside pD b₇) ((st₅'.trans st₆).then_beside b₇ λ y e => e ▸ h1D) ((F₅.step st₆).beside pD b₇ (Ne.symm dDC) λ x i c hi hk hc => (dcI x i c hi hk hc).2)
       (ok.frame it₆ λ o e => b₇ I o dID e) (by simpa using hp₇) (vrels_tm (b₇.tm pD) (vrels_append rD₆ (vrels_one r₆))) nI₆ nD₆ hs₆ hm₆
 · have hj' : j = avs.length := by exact (ar (.i (.l N0 N1) (.i (.i (.t N0 N1) .f) (.e N0 N1))) 2 [_,_] []) hj hlt
   subst hj'
   rw [List.drop_length] at hm
   refine ok.done (i := avs.length) (H := H) (Nat.le_refl _) V.c hsame V.it λ h₃ tk₃ b₃ => ?_
   exact fin ys H hh tk₃ V hm h₃ b₃
end

end P_S20

section P_S21
open PySem PySem.W PySem.Calls PyProof.Rows PySem.SeqAt

section
variable {prog : Program} {w : World} {K : Frag} {base : Heap} {A : Around} {E : Value → Shared → Prop} {s : Shared} {H : AHeap} {env : Env} {sc : Sco} {ρ : Locals} {n k : Nat} {Q : AV → AHeap → Prop}
theorem not_set {e : PySem.Expr} (h : isSet e = false) : ∀ x,foldedSetIterable e env x = pure x := by
 intro x
 cases e <;> first | rfl | exact tf h
theorem list_adopted {H₁ H' : AHeap} {h₁ h' : Heap} {D : Addr} {ys : List AV} (st : Step noX H₁ h₁ H' h') (hD : h₁.get? D = none) (hf : ∀ b,foot (H'.set D (.list ys)) b ↔ foot H' b ∨ b = D) : Step noX H₁ h₁ (H'.set D (.list ys)) h' :=
 ⟨st.keep,λ b f => by
   rcases (hf b).mp f with f | rfl
   · exact st.foot b f
   · exact .inr hD,st.live⟩
theorem comp_core {avs : List AV} {same : AHeap → Prop} {St : Nat → Heap → Prop} {I : Addr} {elt t iter : PySem.Expr} {ifs : List PySem.Expr} {cond : Option ME} {scope : Scope} {pos : Pos} {xs : List Nat} {one : Bool} {h₂ : Heap} {tk₂ : Nat} {R : Value → Addr → Result → Shared → Prop}
   (hR : Re A n k) (ok : ItOk prog w base A I avs same St) (N : CompNames sc t iter scope) (ht : target? (scoIn sc scope.names) t = some (xs,one))
   (hif : (ifs = [] ∧ cond = none) ∨ ∃ c,ifs = [c] ∧ cond = some (cE k (scoIn sc scope.names) c) ∧ ST prog w base n k (scoIn sc scope.names) c (cE k (scoIn sc scope.names) c)) (he : SE prog w base n k (scoIn sc scope.names) elt (cE k (scoIn sc scope.names) elt))
   (c₁ : Conc prog w base H s.heap) (F₁ : FrameRel env sc ρ H s.heap) (gr : ∀ b o,s.heap.get? b = some o → h₂.get? b = some o) (hI : s.heap.get? I = none) (it₂ : St 0 h₂) (hsame : same H)
   (h : mComp (bindT xs one) ρ (λ ρ' H k => mC (RC prog w base n) cond ρ' H k) (λ ρ' H k' => mE (RC prog w base n) (cE k (scoIn sc scope.names) elt) ρ' H k') same avs [] H λ ys H₂ => fresh H₂ (.list ys) Q)
   (fin : ∀ D C H' h' tk m,Conc prog w base H' h' → Step noX H s.heap H' h' → Q (.ref D) H' → h'.Ns C m → ¬ foot H' C → base.get? C = none → s.heap.get? C = none → R (.ref D) C (.ok .next) { s with heap := h',toks := tk }) :
   wpAny (model prog w) A (newList []) (λ acc s₃ => wpAny (model prog w) A (newFunctionEnv scope env.globals (clOf env.cells scope.names []) [] env.qual none .none (some env)) (λ cenv s₄ =>
     codeAny (model prog w) A (.compStart (.ListComp elt [⟨t,iter,ifs,0⟩] scope pos) 0 (.ref I) acc { cenv with scope := relabel scope env }) (R acc cenv.locals) s₄) E s₃) E { s with heap := h₂,toks := tk₂ } := by
 refine wpAny_newObj_type (wpAny_newFunctionEnv N.cell (by intro y hy; simp at hy) (λ h₃ hns₃ hsb₃ => ?_) N.kind)
 dsimp only at hns₃ hsb₃ ⊢
 generalize hX : h₂.push { cls := .type "list",dict := none,data := .seq ([] : List Value).toArray } = hD at hns₃ hsb₃ ⊢
 have hDs : hD.objs.size = h₂.objs.size + 1 := by rw [← hX,Heap.size_push]
 have hDC : h₂.objs.size ≠ hD.objs.size := by exact (ar (.i (.e N0 (.a N1 K1)) (.i (.e N1 N0) .f)) 2 [_,_] []) hDs
 have lt₂ : ∀ b o,h₂.get? b = some o → b < h₂.objs.size := λ b o e => Heap.lt_size e
 have old : ∀ b o,h₂.get? b = some o → h₃.get? b = some o := λ b o e => (hsb₃.2 b (by rw [hDs]; exact Nat.ne_of_lt (Nat.lt_succ_of_lt (lt₂ b o e)))).trans (push_keep _ _ _ (hX ▸ push_keep _ _ _ e))
 have grow : ∀ b o,s.heap.get? b = some o → h₃.get? b = some o := λ b o e => old b o (gr b o e)
 obtain ⟨c₃,st₃⟩ := c₁.grown grow
 have F₃ := F₁.step st₃
 obtain ⟨oI,TI,hoI,_,_⟩ := ok.live it₂
 have ltI := lt₂ I _ hoI
 have noneD : s.heap.get? h₂.objs.size = none := by
   cases e : s.heap.get? h₂.objs.size with
   | none => rfl
   | some o => exact absurd (lt₂ _ _ (gr _ _ e)) (Nat.lt_irrefl _)
 have noneC : s.heap.get? hD.objs.size = none := by
   cases e : s.heap.get? hD.objs.size with
   | none => rfl
   | some o => exact absurd (lt₂ _ _ (gr _ _ e)) (by rw [hDs]; exact Nat.not_lt.mpr (Nat.le_succ _))
 have dIC : I ≠ hD.objs.size := by rw [hDs]; exact Nat.ne_of_lt (Nat.lt_succ_of_lt ltI)
 have dID : I ≠ h₂.objs.size := Nat.ne_of_lt ltI
 have bn : ∀ b,s.heap.get? b = none → base.get? b = none := λ b e => by
   cases q : base.get? b with
   | none => rfl
   | some o => rw [c₁.keep b o q] at e; exact sn e
 have fn : ∀ b,s.heap.get? b = none → ¬ foot H b := λ b e => (c₁.none_of e).2
 have lD : h₃.PlainList h₂.objs.size ([] : List Value).toArray := ⟨_,(hsb₃.2 _ hDC).trans (push_keep _ _ _ (hX ▸ Heap.get?_push_size _ rfl))⟩
 have cellOld : ∀ x i c,sc.code x = some i → sc.kind x = some .cell → env.cells.lookup x = some c → ∃ o,s.heap.get? c = some o := λ x i c hi hk hc => by
   obtain ⟨c',v,e,⟨o,ho,_⟩,_⟩ := F₁.cel x i hi hk
   rw [hc] at e; cases e; exact ⟨o,ho⟩
 have Fin : FrameRel (compEnvC scope (clOf env.cells scope.names []) hD.objs.size env) (scoIn sc scope.names) (λ i => if i ∈ xs then none else ρ i) H h₃ :=
   frame_in F₃ N ht (by simpa using hns₃) (fn _ noneC) λ x i c hi hk hc z => by
     obtain ⟨o,ho⟩ := cellOld x i c hi hk hc
     rw [z,noneC] at ho; exact nn ho
 have inCell : ∀ x i c,(scoIn sc scope.names).code x = some i → (scoIn sc scope.names).kind x = some .cell → (compEnvC scope (clOf env.cells scope.names []) hD.objs.size env).cells.lookup x = some c → ∃ o,s.heap.get? c = some o := by
   intro x i c hi hk hc
   have hx : scope.names.lookup x = some .free ∧ sc.kind x = some .cell := by
     have hk : (if scope.names.lookup x = some .free ∧ sc.kind x = some .cell then some NameKind.cell else scope.names.lookup x) = some .cell := hk
     split at hk
     · assumption
     · exact absurd rfl (N.cell _ (lookup_mem hk))
   obtain ⟨b1,j,b2,_⟩ := N.free _ (lookup_mem hx.1) rfl
   obtain ⟨a1,_,_⟩ := clOf_mem (cells := env.cells) scope.names [] (λ p hp hl => by
     obtain ⟨b1,i,b2,_⟩ := N.free p hp hl
     obtain ⟨c,v,e,_⟩ := F₁.cel _ i b2 b1
     exact ⟨c,e⟩) (λ p m => by cases m)
   have := a1 _ (lookup_mem hc)
   exact cellOld x j c b2 b1 this
 have loop : ∀ {tk},codeAny (model prog w) A (.compLoop (.ListComp elt [⟨t,iter,ifs,0⟩] scope pos) 0 (.ref I) (.ref h₂.objs.size) (compEnvC scope (clOf env.cells scope.names []) hD.objs.size env)) (R (.ref h₂.objs.size) hD.objs.size) { s with heap := h₃,toks := tk } := by
   intro tk
   refine comp_loop (s := s) (cenv := compEnvC scope (clOf env.cells scope.names []) hD.objs.size env) (H₁ := H) (h₁ := s.heap) hR ok ht hif he (bn _ hI) (bn _ noneD) (bn _ noneC) hI noneD noneC dIC hDC dID
     (λ x i c hi hk hc => ?_) (λ ys H' h' tk' V q h'' b => ?_) (H₂ := H) (h₂ := h₃) ⟨c₃,st₃,⟨_,Fin,λ i hi => if_neg hi⟩,ok.frame it₂ λ o e => old I o e,⟨[],lD,vrels_nil⟩,fn _ hI,fn _ noneD⟩ hsame h
   · obtain ⟨o,ho⟩ := inCell x i c hi hk hc
     exact ⟨λ z => (by rw [z,hI] at ho; exact nn ho),λ z => (by rw [z,noneD] at ho; exact nn ho)⟩
   · obtain ⟨ρc,F',_⟩ := V.F
     obtain ⟨m,hn,_⟩ := F'.loc
     have hn : h'.Ns hD.objs.size m := hn
     have offC : ¬ foot H' hD.objs.size := F'.off
     have pI : Priv base H' h' (· = I) := ok.priv V.it ok V.nI (bn _ hI)
     have hn'' : h''.Ns hD.objs.size m := by
       obtain ⟨o,es,ep,ho,r⟩ := hn
       exact ⟨o,es,ep,b _ _ (Ne.symm dIC) ho,r⟩
     obtain ⟨vs,lV,rV⟩ := V.acc
     have c5 := V.c.beside pI b
     have l5 : h''.PlainList h₂.objs.size vs.toArray := by
       obtain ⟨q,e⟩ := lV
       exact ⟨q,b _ _ (Ne.symm dID) e⟩
     have r5 : vrels h'' (foot H') ys vs := vrels_tm (b.tm pI) rV
     obtain ⟨c6,hf⟩ := c5.adopt V.nD (bn _ noneD) l5 r5
     have st5 : Step noX H s.heap H' h'' := V.st.then_beside b λ y e => e ▸ hI
     have Hn : H' h₂.objs.size = none := by
       cases e : H' h₂.objs.size with
       | none => rfl
       | some o =>
         by_cases z : ∃ xs,o = .flist xs
         · obtain ⟨xs,rfl⟩ := z
           obtain ⟨o',e'⟩ := V.c.held _ xs e
           rw [bn _ noneD] at e'; exact nn e'
         · exact absurd (.inl ⟨o,e,λ xs e' => z ⟨xs,e'⟩⟩) V.nD
     exact fin _ _ _ h'' tk' m c6 (list_adopted st5 noneD hf) (q _ Hn) hn'' (λ f => ((hf _).mp f).elim offC λ z => hDC z.symm) (bn _ noneC) noneC
 exact codeAny_compStart_list loop (ok.self (ok.frame it₂ λ o e => old I o e) loop)
end

end P_S21

section P_S22
open PySem PySem.W PySem.Calls PyProof.Rows PySem.SeqAt

section
variable {prog : Program} {w : World} {K : Frag} {base : Heap} {A : Around} {E : Value → Shared → Prop} {s : Shared} {H : AHeap} {env : Env} {sc : Sco} {ρ : Locals} {n k : Nat} {Q : AV → AHeap → Prop}
theorem comp_eval {elt t iter : PySem.Expr} {ifs : List PySem.Expr} {scope : Scope} {pos p₁ : Pos} {T : Value → Shared → Prop} {use : Option (Value → Sem Unit)} (N : CompNames sc t iter scope) (F : FrameRel env sc ρ H s.heap)
   (h : wpAny (model prog w) A (eval iter env) (λ x s₁ => wpAny (model prog w) A (pyIter x) (λ it s₂ => wpAny (model prog w) A (newList []) (λ acc s₃ =>
     wpAny (model prog w) A (newFunctionEnv scope env.globals (clOf env.cells scope.names []) [] env.qual none .none (some env)) (λ cenv s₄ =>
       codeAny (model prog w) A (.compStart (.ListComp elt [⟨t,iter,ifs,0⟩] scope pos) 0 it acc { cenv with scope := relabel scope env }) (compPost (model prog w) A E use T acc cenv.locals) s₄) E s₃) E s₂) E s₁) E s) :
   wpAny (model prog w) A (comprehension (.ListComp elt [⟨t,iter,ifs,0⟩] scope pos) scope env p₁ (newList []) false (eval iter env) use) T E s := by
 refine wpAny_comprehension_free rfl (not_set N.noSet) (closure_at λ p hp hl => ?_) N.kind N.nodup h
 obtain ⟨b1,i,b2,_⟩ := N.free p hp hl
 obtain ⟨c,v,e,_⟩ := F.cel _ i b2 b1
 exact ⟨c,e⟩
theorem cE_comp (elt t it : PySem.Expr) (ifs : List PySem.Expr) (scope : Scope) (pos : Pos) : cE (k + 1) sc (.ListComp elt [⟨t,it,ifs,0⟩] scope pos) = if !compOk sc t it scope then .stop else compS (target? (scoIn sc scope.names) t) (rangeArg? sc it) ifs (cE k sc) (cE k (scoIn sc scope.names)) it elt := rfl
theorem one_of {p : List Nat × Bool} (h : (p.2 && p.1.length == 1) = true) : p = ([p.1.headD 0],true) := by
 obtain ⟨xs,b⟩ := p
 cases b
 · exact ft h
 · cases xs with
   | nil => exact ft h
   | cons x r => cases r with
     | nil => rfl
     | cons _ _ => exact ft h
theorem iter_list (hh : A.handled = none) {l : Addr} {avs : List AV} (c : Conc prog w base H s.heap) (hl : H l = some (.list avs)) {T : Value → Shared → Prop}
   (h : ∀ I h₂,ItOk prog w base A I avs (λ H => H l = some (.list avs)) (λ i h => h.IsListIter I l i) → s.heap.get? I = none → (∀ b o,s.heap.get? b = some o → h₂.get? b = some o) → h₂.IsListIter I l 0 → T (.ref I) { s with heap := h₂ }) :
   wpAny (model prog w) A (pyIter (.ref l)) T E s := by
 obtain ⟨vs,m,ho,r,e⟩ := list_at c hl
 refine wpAny_pyIter_list (isList_of ho) (h _ _ (itList hh _ l (Nat.ne_of_lt (Heap.lt_size ho)) avs) (none_size _) (push_keep _) ⟨_,Heap.get?_push_size _ rfl,rfl,rfl⟩)
theorem iter_range (hh : A.handled = none) {i : Int} {t : Tok} (h0 : 0 ≤ i) (hn : i ≤ lim) {T : Value → Shared → Prop}
   (h : ∀ I h₂ tk,ItOk prog w base A I ((List.range i.toNat).map λ (i : Nat) => .int (i : Int)) (λ _ => True) (λ k h => ∃ j,IsRangeIter h I (k : Int) ((i.toNat : Int) - (k : Nat) - j) 1 ∧ (0 < i.toNat - k → j = 0) ∧ 0 ≤ j) → s.heap.get? I = none → (∀ b o,s.heap.get? b = some o → h₂.get? b = some o) →
     (∃ j,IsRangeIter h₂ I ((0 : Nat) : Int) ((i.toNat : Int) - (0 : Nat) - j) 1 ∧ (0 < i.toNat - 0 → j = 0) ∧ 0 ≤ j) → T (.ref I) { s with heap := h₂,toks := tk }) :
   wpAny (model prog w) A (call (.type "range") [.int i t]) (λ r s' => wpAny (model prog w) A (pyIter r) T E s') E s := by
 unfold lim at hn
 refine call_range_1 ?_
 generalize hX : s.heap.push { cls := .type "range",data := .fields #[.int 0 s.toks,.int i t,.int 1 (s.toks + 1)] } = hR
 have hsz : hR.objs.size = s.heap.objs.size + 1 := by rw [← hX,Heap.size_push]
 refine wpAny_pyIter_range (s := { s with heap := hR,toks := s.toks + 1 + 1 }) (hX ▸ IsRange.new ..) (small_one (by decide) (by decide) (by omega) (by omega)) (h _ _ _ (itRange hh _ i.toNat) ?_ (λ b o e => push_keep _ _ _ (hX ▸ push_keep _ _ _ e)) ⟨0, ?_,λ _ => rfl,Int.le_refl _⟩)
 · cases e : s.heap.get? hR.objs.size with
   | none => rfl
   | some o => exact absurd (Heap.lt_size e) (by rw [hsz]; exact Nat.not_lt.mpr (Nat.le_succ _))
 · have e : Builtin.Range.rangeSize 0 i 1 = (i.toNat : Int) - ((0 : Nat) : Int) - 0 := by rw [rangeSize_one]; split <;> (first | exact (ar (.i (.T K0 Z0) (.E (.s Z0 K0) (.s (.s (.u (.t Z0)) (.u K0)) K0))) 1 [] [_]) (by assumption) | exact (ar (.i (.i (.T K0 Z0) .f) (.E K0 (.s (.s (.u (.t Z0)) (.u K0)) K0))) 1 [] [_]) (by assumption))
   rw [← e]
   exact Heap.get?_push_size _ rfl
theorem comp_gen (S : Stat K base) {elt t it : PySem.Expr} {ifs : List PySem.Expr} {scope : Scope} {pos : Pos} {R : Value → Addr → Result → Shared → Prop} (ii : SE prog w base n k sc it (cE k sc it)) (ir : ∀ f e x,it = .Call f [e] [] x → SE prog w base n k sc e (cE k sc e))
   (ie : SE prog w base n k (scoIn sc scope.names) elt (cE k (scoIn sc scope.names) elt)) (ic : ∀ c ∈ ifs,ST prog w base n k (scoIn sc scope.names) c (cE k (scoIn sc scope.names) c))
   (hR : Re A n (k + 1)) (c : Conc prog w base H s.heap) (F : FrameRel env sc ρ H s.heap) (h : mE (RC prog w base n) (cE (k + 1) sc (.ListComp elt [⟨t,it,ifs,0⟩] scope pos)) ρ H Q)
   (fin : ∀ D C H' h' tk m,Conc prog w base H' h' → Step noX H s.heap H' h' → Q (.ref D) H' → h'.Ns C m → ¬ foot H' C → base.get? C = none → s.heap.get? C = none → R (.ref D) C (.ok .next) { s with heap := h',toks := tk }) :
   CompNames sc t it scope ∧ wpAny (model prog w) A (eval it env) (λ x s₁ => wpAny (model prog w) A (pyIter x) (λ it' s₂ => wpAny (model prog w) A (newList []) (λ acc s₃ =>
     wpAny (model prog w) A (newFunctionEnv scope env.globals (clOf env.cells scope.names []) [] env.qual none .none (some env)) (λ cenv s₄ =>
       codeAny (model prog w) A (.compStart (.ListComp elt [⟨t,it,ifs,0⟩] scope pos) 0 it' acc { cenv with scope := relabel scope env }) (R acc cenv.locals) s₄) E s₃) E s₂) E s₁) E s := by
 have fin' : ∀ {H₁ h₁ tk₁},Step noX H s.heap H₁ h₁ → ∀ D C H' h' tk m,Conc prog w base H' h' → Step noX H₁ h₁ H' h' → Q (.ref D) H' → h'.Ns C m → ¬ foot H' C → base.get? C = none → h₁.get? C = none → R (.ref D) C (.ok .next) { ({ s with heap := h₁,toks := tk₁ } : Shared) with heap := h',toks := tk } :=
   λ st D C H' h' tk m c' st' q hn nf nb n1 => fin D C H' h' tk m c' (st.trans st') q hn nf nb (by
     cases e : s.heap.get? C with
     | none => rfl
     | some o => obtain ⟨o',e'⟩ := st.live C o e; rw [n1] at e'; exact nn e')
 rw [cE_comp] at h
 by_cases z : compOk sc t it scope = true
 · rw [z] at h
   simp only [Bool.not_true,Bool.false_eq_true,if_false] at h
   have N := compOk_names z
   refine ⟨N, ?_⟩
   cases ht : target? (scoIn sc scope.names) t with
   | none => rw [ht] at h; exact h.elim
   | some p =>
   rw [ht] at h
   cases hr : rangeArg? sc it with
   | some e =>
     rw [hr] at h
     replace h : mE (RC prog w base n) (if (p.2 && p.1.length == 1 && ifs.isEmpty) = true then _ else _) ρ H Q := h
     by_cases z1 : (p.2 && p.1.length == 1 && ifs.isEmpty) = true
     case neg => rw [if_neg z1] at h; exact h.elim
     rw [if_pos z1] at h
     rw [Bool.and_eq_true] at z1
     replace ht := ht.trans (congrArg some (one_of z1.1))
     obtain rfl := List.isEmpty_iff.mp z1.2
     generalize p.1.headD 0 = x at *
     obtain ⟨id',p',x',rfl,hk',hg',hs'⟩ := rangeArg_of hr
     refine blt_raw S hk' hg' hs' (ir _ e _ rfl) hR.less c F h λ a v H₁ h₁ tk c₁ st r q => ?_
     obtain ⟨i,rfl,q1,q2,q3⟩ := with_int q
     obtain ⟨tt,rfl⟩ := r
     refine iter_range (base := base) (s := { s with heap := h₁,toks := tk }) hR.handled q1 q2 λ I h₂ tk₂ ok hI gr it₂ => ?_
     exact comp_core (s := { s with heap := h₁,toks := tk }) (pos := pos) (Q := Q) (cond := none) hR.less ok N ht (.inl ⟨rfl,rfl⟩) ie c₁ (F.step st) gr hI it₂ trivial q3 (fin' st)
   | none =>
     rw [hr] at h
     obtain ⟨xs,one⟩ := p
     cases ifs with
     | nil =>
     refine monoP (ii hR.less c F h) λ a v H₁ h₁ tk c₁ st r q => ?_
     obtain ⟨l,avs,rfl,hl,q⟩ := with_list q
     cases r
     refine iter_list (s := { s with heap := h₁,toks := tk }) hR.handled c₁ hl λ I h₂ ok hI gr it₂ => ?_
     exact comp_core (s := { s with heap := h₁,toks := tk }) (pos := pos) (Q := Q) (cond := none) hR.less ok N ht (.inl ⟨rfl,rfl⟩) ie c₁ (F.step st) gr hI it₂ hl q (fin' st)
     | cons cnd tr =>
     cases tr with
     | cons _ _ => exact h.elim
     | nil =>
     refine monoP (ii hR.less c F h) λ a v H₁ h₁ tk c₁ st r q => ?_
     obtain ⟨l,avs,rfl,hl,q⟩ := with_list q
     cases r
     refine iter_list (s := { s with heap := h₁,toks := tk }) hR.handled c₁ hl λ I h₂ ok hI gr it₂ => ?_
     exact comp_core (s := { s with heap := h₁,toks := tk }) (pos := pos) (Q := Q) (cond := some (cE k (scoIn sc scope.names) cnd)) hR.less ok N ht (.inr ⟨cnd,rfl,rfl,ic _ (.head _)⟩) ie c₁ (F.step st) gr hI it₂ hl q (fin' st)
 · have z : compOk sc t it scope = false := by simpa using z
   rw [z] at h; exact h.elim
theorem se_comp (S : Stat K base) {elt t it : PySem.Expr} {ifs : List PySem.Expr} {scope : Scope} {pos : Pos} (ii : SE prog w base n k sc it (cE k sc it)) (ir : ∀ f e x,it = .Call f [e] [] x → SE prog w base n k sc e (cE k sc e))
   (ie : SE prog w base n k (scoIn sc scope.names) elt (cE k (scoIn sc scope.names) elt)) (ic : ∀ c ∈ ifs,ST prog w base n k (scoIn sc scope.names) c (cE k (scoIn sc scope.names) c)) :
   SE prog w base n (k + 1) sc (.ListComp elt [⟨t,it,ifs,0⟩] scope pos) (cE (k + 1) sc (.ListComp elt [⟨t,it,ifs,0⟩] scope pos)) := by
 intro A E env ρ H s Q R c F h
 obtain ⟨N,g⟩ := comp_gen S ii ir ie ic (E := E) (R := compPost (model prog w) A E none (EP prog w vrel base s H Q)) R c F h λ D C H' h' tk m c st q hn nf nb n1 => ⟨m,hn,λ h5 hs5 => by
   have b5 : Beside (· = C) h' h5 := Beside.of_same hs5
   have pC : Priv base H' h' (· = C) := λ a e => by subst e; exact ⟨nf,nb,ns_no_tuple hn⟩
   exact ⟨.ref D,_,h5,tk,rfl,c.beside pC b5,st.then_beside b5 (λ y e => e ▸ n1),vrel_ref,q⟩⟩
 rw [eval_ListComp]
 exact comp_eval N F g
end

end P_S22

section P_S23
open PySem PySem.W PySem.Calls PyProof.Rows PySem.SeqAt

section
variable {prog : Program} {w : World} {K : Frag} {base : Heap} {A : Around} {E : Value → Shared → Prop} {s : Shared} {H : AHeap} {env : Env} {sc : Sco} {ρ : Locals} {n k : Nat} {Q : AV → AHeap → Prop}
theorem se_stop {e : PySem.Expr} {m : ME} (h : m = .stop) : SE prog w base n k sc e m ∧ ST prog w base n k sc e m := by
 subst h
 exact ⟨λ _ _ _ h => h.elim,λ _ _ _ h => h.elim⟩
theorem plain_m1 {α : Type} {f : α → ME} (h : ∀ a,isPlainM (f a) = true) (as : List α) : isPlainM (m1 f as) = true := by
 cases as with
 | nil => rfl
 | cons a r => cases r with
   | nil => exact h a
   | cons b r => rfl
theorem plain_m2 {f : ME → ME → ME} (h : ∀ a b,isPlainM (f a b) = true) (as : List ME) : isPlainM (m2 f as) = true := by
 cases as with
 | nil => rfl
 | cons a r => exact plain_m1 (h a) r
theorem plain_callOf (g : Gl) {l : ME} (hl : isPlainM l = true) (as : List ME) : isPlainM (callOf g l as) = true := by
 cases g <;> try rfl
 rename_i b
 cases b
 case list => exact hl
 case range => rfl
 case min => exact plain_m2 (λ _ _ => rfl) as
 case max => exact plain_m2 (λ _ _ => rfl) as
 all_goals exact plain_m1 (λ _ => rfl) as
theorem one_less {e : PySem.Expr} (h : oneLess e = true) : ∃ a b c,e = .UnaryOp .USub (.Constant (.int 1) a b) c := by
 cases e <;> first | exact nn h | exact ft h | (cases h; done) | skip
 rename_i op x p
 cases op <;> first | exact nn h | exact ft h | (cases h; done) | skip
 cases x <;> first | exact nn h | exact ft h | (cases h; done) | skip
 rename_i c a b
 cases c <;> first | exact nn h | exact ft h | (cases h; done) | skip
 rename_i i
 by_cases z : i = 1
 · subst z; exact ⟨a,b,p,rfl⟩
 · have h : (i == 1) = true := h
   exact (z (by simpa using h)).elim
theorem plain_methOf (x : Str) (o : ME) (as : List ME) : isPlainM (methOf x o as) = true := by
 unfold methOf
 split
 · exact plain_m1 (λ _ => rfl) as
 · split
   · split <;> rfl
   · cases atOf x <;> rfl
theorem plain_ite {c : Prop} [Decidable c] {x y : ME} (hx : isPlainM x = true) (hy : isPlainM y = true) : isPlainM (if c then x else y) = true := by
 by_cases h : c
 · rw [if_pos h]; exact hx
 · rw [if_neg h]; exact hy
theorem plain_compS {t : Option (List Nat × Bool)} {r : Option PySem.Expr} {ifs : List PySem.Expr} {f g : PySem.Expr → ME} {it elt : PySem.Expr} : isPlainM (compS t r ifs f g it elt) = true := by
 cases t with
 | none => rfl
 | some p => cases r with
   | none => cases ifs with
     | nil => rfl
     | cons c q => cases q <;> rfl
   | some e => exact plain_ite (c := (p.2 && p.1.length == 1 && ifs.isEmpty) = true) rfl rfl
theorem plain_comp {elt t it : PySem.Expr} {ifs : List PySem.Expr} {scope : Scope} {pos : Pos} : isPlainM (cE (k + 1) sc (.ListComp elt [⟨t,it,ifs,0⟩] scope pos)) = true := by
 rw [cE_comp]
 split
 · rfl
 · exact plain_compS
theorem comp_shape (gens : List Comprehension) : (∃ t it ifs,gens = [⟨t,it,ifs,0⟩]) ∨ ∀ elt scope pos,cE (k + 1) sc (.ListComp elt gens scope pos) = .stop := by
 cases gens with
 | nil => exact .inr λ _ _ _ => rfl
 | cons g r =>
   obtain ⟨t,it,ifs,i⟩ := g
   cases r with
   | nil =>
     cases i with
     | ofNat m => cases m with
       | zero => exact .inl ⟨t,it,ifs,rfl⟩
       | succ m => exact .inr λ _ _ _ => rfl
     | negSucc m => exact .inr λ _ _ _ => rfl
   | cons _ _ =>
     refine .inr λ _ _ _ => ?_
     cases i with
     | ofNat m => cases m <;> rfl
     | negSucc m => rfl
theorem cmp_shape (ops : List CmpOp) (rs : List PySem.Expr) : (∃ op r,ops = [op] ∧ rs = [r]) ∨ (∃ o₁ o₂ b c,ops = [o₁,o₂] ∧ rs = [b,c]) ∨ ∀ l pos,cE (k + 1) sc (.Compare l ops rs pos) = .stop := by
 rcases ops with _ | ⟨o₁,_ | ⟨o₂,_ | ⟨o₃,ops⟩⟩⟩
 · exact .inr (.inr λ _ _ => rfl)
 · rcases rs with _ | ⟨b,_ | ⟨c,rs⟩⟩
   · exact .inr (.inr λ _ _ => rfl)
   · exact .inl ⟨_,_,rfl,rfl⟩
   · exact .inr (.inr λ _ _ => rfl)
 · rcases rs with _ | ⟨b,_ | ⟨c,_ | ⟨d,rs⟩⟩⟩
   · exact .inr (.inr λ _ _ => rfl)
   · exact .inr (.inr λ _ _ => rfl)
   · exact .inr (.inl ⟨_,_,_,_,rfl,rfl⟩)
   · exact .inr (.inr λ _ _ => rfl)
 · exact .inr (.inr λ _ _ => rfl)
theorem soundE (S : Stat K base) : ∀ (k : Nat) (sc : Sco) (e : PySem.Expr),SE prog w base n k sc e (cE k sc e) ∧ ST prog w base n k sc e (cE k sc e)
 | 0,sc,e => se_stop rfl
 | k + 1,sc,e => by
   have ih := soundE S k
   have both : isPlainM (cE (k + 1) sc e) = true → (∀ env whole,isTrue e env whole = (do let v ← whole; standAt e.pos; holding [v] (truthy v))) → SE prog w base n (k + 1) sc e (cE (k + 1) sc e) → SE prog w base n (k + 1) sc e (cE (k + 1) sc e) ∧ ST prog w base n (k + 1) sc e (cE (k + 1) sc e) :=
     λ a b c => ⟨c,st_value a b c⟩
   cases e <;> try exact se_stop rfl
   case Constant c x1 pos =>
     refine both ?_ (λ _ _ => rfl) (se_const c x1 pos)
     cases c <;> try rfl
     rename_i x
     refine (?_ : isPlainM (match syOf x with | some y => .str y | none => .stop) = true)
     cases syOf x <;> rfl
   case Name x pos =>
     refine both ?_ (λ _ _ => rfl) (se_name S x pos)
     refine (?_ : isPlainM (match sc.code x with | some i => .var i | none => if sc.kind x = some .globalImplicit ∧ gl x = .bnd then .bnd else .stop) = true)
     cases sc.code x <;> try rfl
     by_cases z : sc.kind x = some .globalImplicit ∧ gl x = .bnd
     · show isPlainM (if _ then _ else _) = true; rw [if_pos z]; rfl
     · show isPlainM (if _ then _ else _) = true; rw [if_neg z]; rfl
   case BoolOp op vs pos => exact se_bool (λ e _ => (ih sc e).1) (λ e _ => (ih sc e).2)
   case BinOp l op r pos =>
     refine both ?_ (λ _ _ => rfl) (se_bin op pos (ih sc l).1 (ih sc r).1)
     refine (?_ : isPlainM (match cBop op with | some o => .bin o (cE k sc l) (cE k sc r) | none => .stop) = true)
     cases cBop op <;> rfl
   case UnaryOp op x pos =>
     cases op <;> try exact se_stop rfl
     case Not => exact ⟨λ _ _ _ h => h.elim,st_not (ih sc x).2⟩
     case USub => exact both rfl (λ _ _ => rfl) (se_unop .USub pos (ih sc x).1)
   case IfExp t a b pos => exact ⟨se_ife (ih sc t).2 (ih sc a).1 (ih sc b).1,λ _ _ _ h => h.elim⟩
   case ListComp elt gens scope pos =>
     rcases comp_shape (k := k) (sc := sc) gens with ⟨t,it,ifs,rfl⟩ | z
     · exact both plain_comp (λ _ _ => rfl) (se_comp S (ih sc it).1 (λ f e x _ => (ih sc e).1) (ih _ elt).1 λ c _ => (ih _ c).2)
     · exact se_stop (z elt scope pos)
   case Compare l ops rs pos =>
     rcases cmp_shape (k := k) (sc := sc) ops rs with ⟨op,r,rfl,rfl⟩ | ⟨o₁,o₂,b,c,rfl,rfl⟩ | z
     · exact se_cmp S op pos (ih sc l).1 (ih sc r).1
     · exact st_chain S o₁ o₂ pos (ih sc l).1 (ih sc b).1 (ih sc c).1
     · exact se_stop (z l pos)
   case Call f as kws pos =>
     cases kws
     case cons => exact se_stop rfl
     case nil =>
       by_cases z : plainArgs as = true
       · cases f <;> try exact se_stop (by refine (?_ : (if (!plainArgs as) = true then _ else _) = _); rw [z]; rfl)
         case Name id p =>
           refine both ?_ (λ _ _ => rfl) (se_callName S (λ e _ => (ih sc e).1) λ f e x _ => (ih sc e).1)
           rw [cE_callName]
           split
           · rfl
           · split
             · exact plain_callOf _ (plain_m1 (λ a => by cases rangeArg? sc a <;> rfl) as) _
             · rfl
         case Attribute o x apos =>
           refine both ?_ (λ _ _ => rfl) (se_meth S (ih sc o).1 λ e _ => (ih sc e).1)
           rw [cE_callAttr]
           split
           · rfl
           · split
             · exact plain_methOf ..
             · rfl
       · have z : plainArgs as = false := by simpa using z
         exact se_stop (by refine (?_ : (if (!plainArgs as) = true then _ else _) = _); rw [z]; rfl)
   case Attribute v x pos =>
     refine both ?_ (λ _ _ => rfl) (se_attr S x pos (ih sc v).1)
     refine (?_ : isPlainM (if noSuper v then (match atOf x with | some a => .attr (cE k sc v) a | none => .stop) else .stop) = true)
     split
     · split <;> rfl
     · rfl
   case Subscript v i pos =>
     cases i
     case Slice lo hi st p =>
       cases st with
       | none => exact both rfl (λ _ _ => rfl) (se_slice (ih sc v).1 (λ e _ => (ih sc e).1) λ e _ => (ih sc e).1)
       | some st =>
         have bad : cE (k + 1) sc (.Subscript v (.Slice lo hi (some st) p) pos) = .idx (cE k sc v) (cE k sc (.Slice lo hi (some st) p)) → SE prog w base n (k + 1) sc (.Subscript v (.Slice lo hi (some st) p) pos) (cE (k + 1) sc (.Subscript v (.Slice lo hi (some st) p) pos)) ∧ ST prog w base n (k + 1) sc (.Subscript v (.Slice lo hi (some st) p) pos) (cE (k + 1) sc (.Subscript v (.Slice lo hi (some st) p) pos)) := by
           intro e
           refine both (by rw [e]; rfl) (λ _ _ => rfl) (λ {A E env ρ H s Q} R c F h => ?_)
           rw [e] at h
           have es : cE k sc (.Slice lo hi (some st) p) = .stop := by cases k <;> rfl
           rw [es] at h
           exact Subscript_ (monoP ((ih sc v).1 R.less c F h) λ a x H₁ h₁ tk c₁ st r q => q.elim)
         cases lo with
         | some lo => exact bad rfl
         | none =>
           cases hi with
           | some hi => exact bad rfl
           | none =>
             have e : cE (k + 1) sc (.Subscript v (.Slice none none (some st) p) pos) = if oneLess st then .rev (cE k sc v) else .stop := rfl
             by_cases z : oneLess st = true
             · obtain ⟨a,b,c,rfl⟩ := one_less z
               exact both rfl (λ _ _ => rfl) (λ {A E env ρ H s Q} R c F h => se_rev (ih sc v).1 R c F h)
             · rw [e,if_neg z]; exact se_stop rfl
     all_goals exact both rfl (λ _ _ => rfl) (se_idx (λ _ _ => rfl) rfl (ih sc v).1 (ih sc _).1)
   case List es pos =>
     refine both ?_ (λ _ _ => rfl) (se_lst λ e _ => (ih sc e).1)
     refine (?_ : isPlainM (if plainArgs es then .lst (es.map (cE k sc)) else .stop) = true)
     split <;> rfl
   case Tuple es x1 pos =>
     refine both ?_ (λ _ _ => rfl) (se_tup λ e _ => (ih sc e).1)
     refine (?_ : isPlainM (if plainArgs es then .tup (es.map (cE k sc)) else .stop) = true)
     split <;> rfl
   case Dict ks vs pos =>
     cases ks
     case cons => exact se_stop rfl
     case nil =>
       cases vs
       case cons => exact se_stop rfl
       case nil => exact both rfl (λ _ _ => rfl) se_dict0
end

end P_S23

section P_S24
open PySem PySem.W PySem.Calls PyProof.Rows PySem.SeqAt

noncomputable def frel (h : Heap) (P : Addr → Prop) : MF → Flow → Prop
 | .next,f => f = .next
 | .ret a,f => ∃ v,f = .ret v ∧ vrel h P a v
inductive EF (prog : Program) (w : World) (base : Heap) (env : Env) (sc : Sco) (s : Shared) (H : AHeap) (Q : SPost) (f : Flow) (s' : Shared) : Prop
 | mk (mf : MF) (ρ' : Locals) (H' : AHeap) (h' : Heap) (tk : Nat) (e : s' = { s with heap := h',toks := tk }) (c : Conc prog w base H' h') (st : Step (ownX env sc) H s.heap H' h') (F : FrameRel env sc ρ' H' h') (r : frel h' (foot H') mf f) (q : Q mf ρ' H')
noncomputable def SS (prog : Program) (w : World) (base : Heap) (n : Nat) (sc : Sco) (st : PySem.Stmt) (m : MS) : Prop :=
 ∀ {A : Around} {E : Value → Shared → Prop} {env : Env} {ρ : Locals} {H : AHeap} {s : Shared} {Q : SPost},Re A n 45 → Conc prog w base H s.heap → FrameRel env sc ρ H s.heap → Own base env sc →
   mS (RC prog w base n) m ρ H Q → wpAny (model prog w) A (exec st env) (EF prog w base env sc s H Q) E s
noncomputable def SSs (prog : Program) (w : World) (base : Heap) (n : Nat) (sc : Sco) (st : List PySem.Stmt) (m : List MS) : Prop :=
 ∀ {A : Around} {E : Value → Shared → Prop} {env : Env} {ρ : Locals} {H : AHeap} {s : Shared} {Q : SPost},Re A n 45 → Conc prog w base H s.heap → FrameRel env sc ρ H s.heap → Own base env sc →
   mSs (RC prog w base n) m ρ H Q → wpAny (model prog w) A (execs st env) (EF prog w base env sc s H Q) E s
section
variable {prog : Program} {w : World} {K : Frag} {base : Heap} {A : Around} {E : Value → Shared → Prop} {s : Shared} {H : AHeap} {env : Env} {sc : Sco} {ρ : Locals} {n k : Nat} {Q : SPost}
theorem Re.to {j : Nat} (r : Re A n k) (h : j ≤ k) : Re A n j := ⟨r.handled,by have := r.depth; exact (ar (.i (.l (.a (.a (.a N0 (.m 50 N1)) (.k 12)) N2) (.k 990)) (.i (.l N3 N2) (.l (.a (.a (.a N0 (.m 50 N1)) (.k 12)) N3) (.k 990)))) 4 [_,_,_,_] []) this h,by have := r.units; exact (ar (.i (.l (.a (.a (.a N0 (.m 500 N1)) (.k 120)) (.m 10 N2)) (.k 9000)) (.i (.l N3 N2) (.l (.a (.a (.a N0 (.m 500 N1)) (.k 120)) (.m 10 N3)) (.k 9000)))) 4 [_,_,_,_] []) this h⟩
theorem EF.chain {H₁ : AHeap} {h₁ : Heap} {tk : Nat} {f : Flow} {s' : Shared} (st : Step (ownX env sc) H s.heap H₁ h₁) (p : EF prog w base env sc { s with heap := h₁,toks := tk } H₁ Q f s') : EF prog w base env sc s H Q f s' := by
 obtain ⟨mf,ρ',H',h',tk',e,c,st',F,r,q⟩ := p
 exact ⟨mf,ρ',H',h',tk',e,c,st.trans st',F,r,q⟩
theorem Step.own {H' : AHeap} {h h' : Heap} (st : Step noX H h H' h') : Step (ownX env sc) H h H' h' := st.weaken λ _ x => x.elim
theorem EF.next {H' : AHeap} {h' : Heap} {tk : Nat} {ρ' : Locals} (c : Conc prog w base H' h') (st : Step (ownX env sc) H s.heap H' h') (F : FrameRel env sc ρ' H' h') (q : Q .next ρ' H') : EF prog w base env sc s H Q .next { s with heap := h',toks := tk } :=
 ⟨.next,ρ',H',h',tk,rfl,c,st,F,rfl,q⟩
theorem ss_stop {st : PySem.Stmt} {m : MS} (h : m = .stop) : SS prog w base n sc st m := by subst h; exact λ _ _ _ _ h => h.elim
theorem ss_expr (S : Stat K base) {v : PySem.Expr} {pos : Pos} (hc : isComp v = false) : SS prog w base n sc (.Expr v pos) (.expr (cE 40 sc v)) := by
 intro A E env ρ H s Q R c F O h
 have hi : interactive env = false := by unfold interactive; rw [F.kind]; rfl
 have hs : swapsWith v none pos.line env = pure false := by cases v <;> first | rfl | cases hc
 refine wpAny_Expr_any (monoP ((soundE S 40 sc v).1 (R.to (by decide)) c F h) λ a v' H₁ h₁ tk c₁ st r q => ?_) hi hs
 exact EF.next c₁ st.own (F.step st) q
theorem ss_pass {pos : Pos} : SS prog w base n sc (.Pass pos) .pass := by
 intro A E env ρ H s Q R c F O h
 exact wpAny_Pass ⟨.next,ρ,H,s.heap,s.toks,rfl,c,.refl,F,rfl,h⟩
theorem ss_ret (S : Stat K base) {v : Option PySem.Expr} {pos : Pos} : SS prog w base n sc (.Return v pos) (.ret (v.map (cE 40 sc))) := by
 intro A E env ρ H s Q R c F O h
 cases v with
 | none => exact wpAny_Return_none ⟨.ret .none,ρ,H,s.heap,s.toks,rfl,c,.refl,F,⟨.none,rfl,vrel_none⟩,h⟩
 | some v =>
   refine wpAny_Return_some (monoP ((soundE S 40 sc v).1 (R.to (by decide)) c F h) λ a v' H₁ h₁ tk c₁ st r q => ?_)
   exact ⟨.ret a,ρ,H₁,h₁,tk,rfl,c₁,st.own,F.step st,⟨v',rfl,r⟩,q⟩
theorem ss_name (S : Stat K base) {id : Str} {p pos : Pos} {v : PySem.Expr} {i : Nat} (hi : sc.code id = some i) {A : Around} {E : Value → Shared → Prop} {env : Env} {ρ : Locals} {H : AHeap} {s : Shared} {Q : SPost} (R : Re A n 45) (c : Conc prog w base H s.heap) (F : FrameRel env sc ρ H s.heap) (O : Own base env sc)
   (h : mE (RC prog w base n) (cE 40 sc v) ρ H λ v H' => Q .next (upd ρ i v) H') (hs : swapsWith v (some (.Name id p)) pos.line env = pure false) :
   wpAny (model prog w) A (exec (.Assign [.Name id p] v pos) env) (EF prog w base env sc s H Q) E s := by
 refine wpAny_Assign_Name (monoP ((soundE S 40 sc v).1 (R.to (by decide)) c F h) λ a v' H₁ h₁ tk c₁ st r q => ?_) hs
 exact store_var (s := { s with heap := h₁,toks := tk }) c₁ (F.step st) O hi r λ h' tk' c' F' st' => EF.next c' (st.own.trans st') F' q
theorem ss_assign (S : Stat K base) {id : Str} {p pos : Pos} {v : PySem.Expr} : SS prog w base n sc (.Assign [.Name id p] v pos) (match sc.code id with | some i => .assign i (cE 40 sc v) | none => .stop) := by
 intro A E env ρ H s Q R c F O h
 cases hi : sc.code id with
 | none => simp only [hi] at h; exact h.elim
 | some i =>
   simp only [hi] at h
   have h : mE (RC prog w base n) (cE 40 sc v) ρ H λ v H' => Q .next (upd ρ i v) H' := h
   by_cases hl : ∃ elt t it ifs scope pos',v = .ListComp elt [⟨t,it,ifs,0⟩] scope pos'
   · obtain ⟨elt,t,it,ifs,scope,pos',rfl⟩ := hl
     have hsw : swapsWith (.ListComp elt [⟨t,it,ifs,0⟩] scope pos') (some (.Name id p)) pos.line env = pure (env.blockKind == .function && env.kindOf id == some .local && p.line == pos'.line
       && !(scope.names.any λ (n,k) => n == id && (k == .local || k == .cell))) := rfl
     cases hb : (env.blockKind == .function && env.kindOf id == some .local && p.line == pos'.line
       && !(scope.names.any λ (n,k) => n == id && (k == .local || k == .cell))) with
     | false => rw [hb] at hsw; exact ss_name S hi R c F O h hsw
     | true =>
       rw [hb] at hsw
       have hk : sc.kind id = some .local := by
         rw [← F.names]
         simp only [Bool.and_eq_true] at hb
         simpa using hb.1.1.2
       rw [exec_Assign_Name_used id p _ pos hsw]
       refine wpAny_bind (wpAny_standAt (wpAny_bind ?_))
       refine (?_ : wpAny _ _ (do let _ ← comprehension (.ListComp elt [⟨t,it,ifs,0⟩] scope pos') scope env (firstIterPos [⟨t,it,ifs,0⟩] pos') (newList []) false (eval it env) (some (assign (.Name id p) env))) _ _ _)
       refine wpAny_bind ?_
       have sE := λ sc e => (soundE (prog := prog) (w := w) (n := n) S 39 sc e)
       obtain ⟨N,g⟩ := comp_gen S (E := E) (env := env) (pos := pos') (R := compPost (model prog w) A E (some (assign (.Name id p) env)) λ _ s' => EF prog w base env sc s H Q .next s')
         (sE sc it).1 (λ f e x _ => (sE sc e).1) (sE _ elt).1 (λ c _ => (sE _ c).2) (R.to (by decide)) c F h λ D C H' h' tk m c' st q hn nf nb n1 => by
           refine (?_ : wpAny (model prog w) A (assign (.Name id p) env (.ref D)) (λ _ s'' => ∃ m,s''.heap.Ns C m ∧ ∀ h',Heap.SameBut C s''.heap h' → EF prog w base env sc s H Q .next { s'' with heap := h' }) E { s with heap := h',toks := tk })
           have Cl : C ≠ env.locals := λ z => by
             obtain ⟨m,⟨o,es,ep,ho,_⟩,_⟩ := F.loc
             rw [z,ho] at n1; exact sn n1
           refine wpAny_assign_Name (store_local (s := { s with heap := h',toks := tk }) c' (F.step st) O.loc hi hk vrel_ref λ h2 tk2 c2 F2 hs2 live => ?_)
           refine ⟨m,hn.sameBut hs2 Cl,λ h3 hs3 => ?_⟩
           have b3 : Beside (· = C) h2 h3 := Beside.of_same hs3
           have p3 : Priv base H' h2 (· = C) := λ a e => by subst e; exact ⟨nf,nb,ns_no_tuple (hn.sameBut hs2 Cl)⟩
           have F3 := F2.beside p3 b3 (λ z => Cl z.symm) λ x j cl hj hkj hcl z => by
             obtain ⟨c0,v0,e0,⟨o0,ho0,_⟩,_⟩ := F.cel x j hj hkj
             rw [hcl] at e0; cases e0
             rw [show cl = C from z,n1] at ho0; exact nn ho0
           have st2 : Step (ownX env sc) H' h' H' h2 := (Step.of_beside (Beside.of_same hs2) λ a o e _ => e ▸ live).weaken λ _ e => .inl e
           exact ⟨.next,_,H',h3,tk2,rfl,c2.beside p3 b3,(st.own.trans st2).then_beside b3 (λ y e => e ▸ n1),F3,rfl,q⟩
       exact wpAny_mono (comp_eval N F g) (λ _ _ x => wpAny_pure (wpAny_pure x)) λ _ _ x => x
   · cases v <;> first | exact ss_name S hi R c F O h rfl | skip
     case ListComp elt gens scope pos' _ =>
       rcases comp_shape (k := 39) (sc := sc) gens with ⟨t,it,ifs,rfl⟩ | z
       · exact absurd ⟨_,_,_,_,_,_,rfl⟩ hl
       · rw [z] at h; exact h.elim
     all_goals exact h.elim
end

end P_S24

section P_S25
open PySem PySem.W PySem.Calls PyProof.Rows PySem.SeqAt

section
variable {prog : Program} {w : World} {K : Frag} {base : Heap} {A : Around} {E : Value → Shared → Prop} {s : Shared} {H : AHeap} {env : Env} {sc : Sco} {ρ : Locals} {n k : Nat} {Q : SPost}
theorem swaps_other {v t : PySem.Expr} {line : Nat} (ht : ∀ id p,t ≠ .Name id p) : swapsWith v (some t) line env = pure false := by
 cases v <;> first | rfl | skip
 all_goals (cases t <;> first | rfl | exact absurd rfl (ht _ _))
theorem assign_one {t v : PySem.Expr} {pos : Pos} (hsw : swapsWith v (some t) pos.line env = pure false) (hss : swappedStores [t] v env = pure none) (hae : (assignEach [t] env).map (·.2) = [assign t env])
   {Q : Flow → Shared → Prop} (h : wpAny (model prog w) A (eval v env) (λ v' s₁ => wpAny (model prog w) A (assign t env v') (λ _ => Q .next) E s₁) E s) : wpAny (model prog w) A (exec (.Assign [t] v pos) env) Q E s := by
 refine wpAny_Assign_stores ?_ hsw hss
 rw [hae]
 exact h
theorem ss_attr (S : Stat K base) {o v : PySem.Expr} {x : Str} {p pos : Pos} : SS prog w base n sc (.Assign [.Attribute o x p] v pos) (match atOf x with | some a => .setAttr (cE 40 sc o) a (cE 40 sc v) | none => .stop) := by
 intro A E env ρ H s Q R c F O h
 cases ha : atOf x with
 | none => simp only [ha] at h; exact h.elim
 | some a =>
   simp only [ha] at h
   have hx := atOf_nm ha
   subst hx
   refine assign_one (swaps_other λ _ _ z => by cases z) rfl rfl (monoP ((soundE S 40 sc v).1 (R.to (by decide)) c F h) λ u v' H₁ h₁ tk c₁ st r q => ?_)
   rw [arm_assign_Attribute]
   refine wpAny_bind (wpAny_holding (monoP ((soundE S 40 sc o).1 (s := { s with heap := h₁,toks := tk }) (R.to (by decide)) c₁ (F.step st) q) λ b ov H₂ h₂ tk₂ c₂ st₂ r₂ q₂ => wpAny_bind (wpAny_standAt (wpAny_bind (wpAny_holding ?_)))))
   cases b <;> first | exact q₂.elim | skip
   rename_i y
   cases r₂
   cases hy : H₂ y with
   | none => simp only [hy] at q₂
   | some oy =>
     simp only [hy] at q₂
     cases oy <;> first | exact q₂.elim | skip
     rename_i C kk d F'
     obtain ⟨q1,q2,q3⟩ := q₂
     refine set_field (s := { s with heap := h₂,toks := tk₂ }) S c₂ hy q1 q2 (vrel_step st₂ r) λ h3 tk3 c3 st3 => wpAny_release_ ?_
     have stt := (st.trans st₂).trans st3
     exact EF.next c3 stt.own (F.step stt) q3
theorem ss_setIdx (S : Stat K base) {o i v : PySem.Expr} {p pos : Pos} : SS prog w base n sc (.Assign [.Subscript o i p] v pos) (.setIdx (cE 40 sc o) (cE 40 sc i) (cE 40 sc v)) := by
 intro A E env ρ H s Q R c F O h
 refine assign_one (swaps_other λ _ _ z => by cases z) rfl rfl (monoP ((soundE S 40 sc v).1 (R.to (by decide)) c F h) λ u v' H₁ h₁ tk c₁ st r q => ?_)
 rw [arm_assign_Subscript]
 refine wpAny_bind (wpAny_holding (monoP ((soundE S 40 sc o).1 (s := { s with heap := h₁,toks := tk }) (R.to (by decide)) c₁ (F.step st) q) λ b ov H₂ h₂ tk₂ c₂ st₂ r₂ q₂ => wpAny_bind (wpAny_holding ?_)))
 refine monoP ((soundE S 40 sc i).1 (s := { s with heap := h₂,toks := tk₂ }) (R.to (by decide)) c₂ (F.step (st.trans st₂)) q₂) λ j iv H₃ h₃ tk₃ c₃ st₃ r₃ q₃ => wpAny_bind (wpAny_standAt (wpAny_bind (wpAny_holding ?_)))
 cases b <;> first | exact q₃.elim | skip
 cases j <;> first | exact q₃.elim | skip
 rename_i y j
 cases r₂
 obtain ⟨t,rfl⟩ := r₃
 have r' := vrel_step st₃ (vrel_step st₂ r)
 cases hy : H₃ y with
 | none => simp only [hy] at q₃
 | some oy =>
   simp only [hy] at q₃
   cases oy <;> first | exact q₃.elim | skip
   · rename_i xs
     obtain ⟨q1,q2⟩ := q₃
     by_cases hj : 0 ≤ j
     · rw [if_pos hj] at q2
       refine setList_ok (s := { s with heap := h₃,toks := tk₃ }) c₃ hy q1 (j := j.toNat) (by rw [if_pos hj]; exact ⟨q2.1,rfl⟩) r' λ h4 c4 st4 => wpAny_release_ ?_
       have stt := ((st.trans st₂).trans st₃).trans st4
       exact EF.next c4 stt.own (F.step stt) q2.2
     · rw [if_neg hj] at q2
       refine setList_ok (s := { s with heap := h₃,toks := tk₃ }) c₃ hy q1 (j := (j + xs.length).toNat) (by rw [if_neg hj]; exact ⟨q2.1,rfl⟩) r' λ h4 c4 st4 => wpAny_release_ ?_
       have stt := ((st.trans st₂).trans st₃).trans st4
       exact EF.next c4 stt.own (F.step stt) q2.2
   · refine setDict_ok (s := { s with heap := h₃,toks := tk₃ }) c₃ hy q₃.1 r' λ h4 tk4 c4 st4 => wpAny_release_ ?_
     have stt := ((st.trans st₂).trans st₃).trans st4
     exact EF.next c4 stt.own (F.step stt) q₃.2
theorem ss_setSlice (S : Stat K base) {o lo hi v : PySem.Expr} {p' p pos : Pos} : SS prog w base n sc (.Assign [.Subscript o (.Slice (some lo) (some hi) none p') p] v pos) (.setSlice (cE 40 sc o) (cE 40 sc lo) (cE 40 sc hi) (cE 40 sc v)) := by
 intro A E env ρ H s Q R c F O h
 refine assign_one (swaps_other λ _ _ z => by cases z) rfl rfl (monoP ((soundE S 40 sc v).1 (R.to (by decide)) c F h) λ u v' H₁ h₁ tk c₁ st r q => ?_)
 rw [arm_assign_Subscript]
 refine wpAny_bind (wpAny_holding (monoP ((soundE S 40 sc o).1 (s := { s with heap := h₁,toks := tk }) (R.to (by decide)) c₁ (F.step st) q) λ b ov H₂ h₂ tk₂ c₂ st₂ r₂ q₂ => wpAny_bind (wpAny_holding (wpAny_Slice ?_))))
 rw [evalPart_some,evalPart_some,evalPart_none]
 refine monoP ((soundE S 40 sc lo).1 (s := { s with heap := h₂,toks := tk₂ }) (R.to (by decide)) c₂ (F.step (st.trans st₂)) q₂) λ i iv H₃ h₃ tk₃ c₃ st₃ r₃ q₃ => ?_
 refine monoP ((soundE S 40 sc hi).1 (s := { s with heap := h₃,toks := tk₃ }) (R.to (by decide)) c₃ (F.step ((st.trans st₂).trans st₃)) q₃) λ j jv H₄ h₄ tk₄ c₄ st₄ r₄ q₄ => ?_
 refine wpAny_pure (wpAny_bind (wpAny_standAt (wpAny_bind (wpAny_holding ?_))))
 cases u <;> first | exact q₄.elim | skip
 cases b <;> first | exact q₄.elim | skip
 cases i <;> first | exact q₄.elim | skip
 cases j <;> first | exact q₄.elim | skip
 rename_i y x i j
 cases r; cases r₂
 obtain ⟨t,rfl⟩ := r₃
 obtain ⟨t',rfl⟩ := r₄
 cases hy : H₄ y with
 | none => simp only [hy] at q₄
 | some oy =>
   cases hx : H₄ x with
   | none => simp only [hx] at q₄; rw [hy] at q₄; cases oy <;> exact q₄.elim
   | some ox =>
     simp only [hy,hx] at q₄
     cases oy <;> first | exact q₄.elim | skip
     cases ox <;> first | exact q₄.elim | skip
     obtain ⟨z1,z2,z3,z4,z5,z6⟩ := q₄
     refine setSlice_ok (s := { s with heap := h₄,toks := tk₄ }) c₄ hx hy z1 z2 z3 z4 z5 λ h5 tk5 c5 st5 => wpAny_release_ ?_
     have stt := (((st.trans st₂).trans st₃).trans st₄).trans st5
     exact EF.next c5 stt.own (F.step stt) z6
theorem ss_unpack (S : Stat K base) {ts : List PySem.Expr} {x1 : Nat} {p pos : Pos} {v : PySem.Expr} {xs : List Nat} (hn : namesCodes? sc ts = some xs) (hv : ∃ f as kw p,v = .Call f as kw p) : SS prog w base n sc (.Assign [.Tuple ts x1 p] v pos) (.unpack xs (cE 40 sc v)) := by
 intro A E env ρ H s Q R c F O h
 refine assign_one (swaps_other λ _ _ z => by cases z) (by obtain ⟨f,as,kw,p,rfl⟩ := hv; rfl) rfl (monoP ((soundE S 40 sc v).1 (R.to (by decide)) c F h) λ u v' H₁ h₁ tk c₁ st r q => ?_)
 cases u <;> first | exact q.elim | skip
 refine assign_tuple (s := { s with heap := h₁,toks := tk }) R.handled O.loc hn q.1 c₁ (F.step st) r λ h' tk' c' F' st' => ?_
 exact EF.next c' (st.own.trans (st'.weaken λ _ e => .inl e)) F' q.2
theorem nodup2 {a b : Nat} {x y : AV} {ρ : Locals} (h : [a,b].Nodup) : upds ρ [b,a] [y,x] = upds ρ [a,b] [x,y] := by
 have h : a ≠ b := by simpa using h
 funext i
 refine (?_ : upd (upd ρ b y) a x i = upd (upd ρ a x) b y i)
 unfold upd
 by_cases h1 : i = a
 · have : ¬ i = b := λ z => h (h1 ▸ z)
   simp [h1,h]
 · simp [h1]
theorem nodup3 {a b c : Nat} {x y z : AV} {ρ : Locals} (h : [a,b,c].Nodup) : upds ρ [c,b,a] [z,y,x] = upds ρ [a,b,c] [x,y,z] := by
 have h : (a ≠ b ∧ a ≠ c) ∧ b ≠ c := by simpa using h
 obtain ⟨⟨h1,h2⟩,h3⟩ := h
 funext i
 refine (?_ : upd (upd (upd ρ c z) b y) a x i = upd (upd (upd ρ a x) b y) c z i)
 unfold upd
 by_cases e1 : i = a
 · simp [e1,h1,h2]
 · by_cases e2 : i = b
   · subst e2; simp [e1,h3]
   · by_cases e3 : i = c
     · subst e3; simp [e1,e2]
     · simp [e1,e2,e3]
theorem names_bind (hb : base.get? env.locals = none) : ∀ {ids : List Str} {xs : List Nat} {as : List AV} {vs : List Value} {ρ : Locals} {s : Shared} {Q : Unit → Shared → Prop},ids.length = xs.length → (∀ (j : Nat) (x : Str) (i : Nat),ids[j]? = some x → xs[j]? = some i → sc.kind x = some .local ∧ sc.code x = some i) → xs.length = as.length → Conc prog w base H s.heap → FrameRel env sc ρ H s.heap →
   vrels s.heap (foot H) as vs →
   (∀ h' tk,Conc prog w base H h' → FrameRel env sc (upds ρ xs as) H h' → Step (· = env.locals) H s.heap H h' → Q () { s with heap := h',toks := tk }) →
   wpAny (model prog w) A (assignInOrder (ids.map λ n => bindName env n) vs) Q E s
 | [],xs,as,vs,ρ,s,Q,hl,hn,hl',c,F,r,h => by
   have hx : xs = [] := List.eq_nil_of_length_eq_zero hl.symm
   subst hx
   have ha : as = [] := List.eq_nil_of_length_eq_zero hl'.symm
   subst ha
   cases r
   exact wpAny_pure (h s.heap s.toks c F .refl)
 | id :: ids,[],as,vs,ρ,s,Q,hl,hn,hl',c,F,r,h => by cases hl
 | id :: ids,x :: xs,[],vs,ρ,s,Q,hl,hn,hl',c,F,r,h => by cases hl'
 | id :: ids,x :: xs,a :: as,vs,ρ,s,Q,hl,hn,hl',c,F,r,h => by
   obtain ⟨v,r',rfl,r1,r2⟩ := r
   obtain ⟨hk,hc⟩ := hn 0 id x rfl rfl
   refine wpAny_assignInOrder_more (wpAny_bindName (store_local c F hb hc hk r1 λ h' tk c' F' hs live => ?_))
   have pv : Priv base H s.heap (· = env.locals) := λ a e => by
     subst e
     obtain ⟨m,hn,_⟩ := F.loc
     exact ⟨F.off,hb,ns_no_tuple hn⟩
   have st : Step (· = env.locals) H s.heap H h' := Step.of_beside (Beside.of_same hs) λ a o e _ => e ▸ live
   refine names_bind (s := { s with heap := h',toks := tk }) hb (by simpa using hl) (λ j y i hy hi => hn (j + 1) y i hy hi) (by simpa using hl') c' F' (vrels_tm ((Beside.of_same hs).tm pv) r2) λ h'' tk' c'' F'' st' => ?_
   exact h h'' tk' c'' F'' (st.trans st')
theorem names_ids : ∀ {ts : List PySem.Expr} {xs : List Nat} (line : Nat),namesCodes? sc ts = some xs → (∀ t ∈ ts,t.pos.line = line) → (∀ x,env.kindOf x = sc.kind x) →
   ∃ ids : List Str,(ts.filterMap λ | .Name id pos => if env.kindOf id == some .local && pos.line == line then some id else none | _ => none) = ids ∧ ids.length = xs.length ∧ ts.length = xs.length ∧ ∀ (j : Nat) (x : Str) (i : Nat),ids[j]? = some x → xs[j]? = some i → sc.kind x = some .local ∧ sc.code x = some i
 | [],xs,line,h,_,_ => by cases h; exact ⟨[],rfl,rfl,rfl,λ j x i hx => by simp at hx⟩
 | e :: es,xs,line,h,hl,F => by
   obtain ⟨c,cs,rfl,h1,h2⟩ := namesCodes_cons h
   obtain ⟨id,p,rfl,hk,hc⟩ := nameCode_of h1
   obtain ⟨ids,a1,a2,a3,a4⟩ := names_ids line h2 (λ t m => hl t (.tail _ m)) F
   have hp : p.line = line := hl _ (.head _)
   refine ⟨id :: ids, ?_,by simp [a2],by simp [a3],λ j x i hx hi => ?_⟩
   · rw [List.filterMap_cons]
     have : (env.kindOf id == some .local && p.line == line) = true := by rw [F,hk,hp]; simp
     simp only [this,if_true]
     rw [a1]
   · cases j with
     | zero => cases hx; cases hi; exact ⟨hk,hc⟩
     | succ j => exact a4 j x i hx hi
end

end P_S25

section P_S26
open PySem PySem.W PySem.Calls PyProof.Rows PySem.SeqAt

section
variable {prog : Program} {w : World} {K : Frag} {base : Heap} {A : Around} {E : Value → Shared → Prop} {s : Shared} {H : AHeap} {env : Env} {sc : Sco} {ρ : Locals} {n k : Nat} {Q : SPost}
theorem nodup_dups {l : List Str} (h : l.Nodup) : l.eraseDups.length = l.length := by
 induction l with
 | nil => rfl
 | cons a l ih =>
   rw [List.eraseDups_cons]
   have hn := List.nodup_cons.mp h
   have : l.filter (λ b => !b == a) = l := by
     rw [List.filter_eq_self]
     intro b hb
     have : b ≠ a := λ z => hn.1 (z ▸ hb)
     simpa using this
   rw [this,List.length_cons,List.length_cons,ih hn.2]
theorem ids_nodup : ∀ {ids : List Str} {xs : List Nat},ids.length = xs.length → xs.Nodup → (∀ (j : Nat) (x : Str) (i : Nat),ids[j]? = some x → xs[j]? = some i → sc.kind x = some .local ∧ sc.code x = some i) → ids.Nodup
 | [],_,_,_,_ => List.nodup_nil
 | id :: ids,[],h,_,_ => by cases h
 | id :: ids,x :: xs,hl,hn,h => by
   have hn' := List.nodup_cons.mp hn
   refine List.nodup_cons.mpr ⟨λ m => ?_,ids_nodup (by simpa using hl) hn'.2 λ j y i hy hi => h (j + 1) y i hy hi⟩
   obtain ⟨j,hj,e⟩ := List.mem_iff_getElem.mp m
   have h0 := (h 0 id x rfl rfl).2
   have hj' : j < xs.length := by have := hl; simp at this; exact (ar (.i (.e N0 N1) (.i (.t N2 N0) (.t N2 N1))) 3 [_,_,_] []) this hj
   have h1 := (h (j + 1) id xs[j] (by simp [e,hj]) (by simp [hj'])).2
   rw [h0] at h1
   cases h1
   exact hn'.1 (List.getElem_mem hj')
theorem blockKind_fn (F : FrameRel env sc ρ H s.heap) : env.blockKind = .function := by unfold Env.blockKind; rw [F.kind]; rfl
theorem swapped_at {ts vs : List PySem.Expr} {x1 x2 : Nat} {p p' : Pos} {ids : List Str} (hk : env.blockKind = .function) (ho : swapOk ts vs = true)
   (hids : (ts.filterMap λ | .Name id pos => if env.kindOf id == some .local && pos.line == (ts.head?.map (·.pos.line)).getD 0 then some id else none | _ => none) = ids) (hl : ids.length = ts.length) (hd : ids.Nodup) :
   swappedStores [.Tuple ts x1 p] (.Tuple vs x2 p') env = pure (some ids) := by
 unfold swapOk at ho
 simp only [Bool.and_eq_true,Bool.not_eq_true'] at ho
 obtain ⟨⟨⟨⟨h1,h2⟩,h3⟩,h4⟩,h5⟩ := ho
 have c1 : (!(ts.length == 2 || ts.length == 3) || vs.length != ts.length || env.blockKind != .function) = false := by
   rw [h1,hk]
   have : vs.length = ts.length := by simpa using h2
   simp [this]
 have c2 : (ids.length != ts.length || ids.eraseDups.length != ids.length) = false := by rw [nodup_dups hd,hl]; simp
 refine (if_neg (λ z => tf (z.symm.trans c1))).trans ?_
 refine (if_neg (λ z => absurd (h3.symm.trans z) (by decide))).trans ?_
 subst hids
 refine (if_neg (λ z => tf (z.symm.trans c2))).trans ?_
 refine (if_neg (λ z => tf (z.symm.trans h4))).trans ?_
 exact (if_neg (λ z => tf (z.symm.trans h5))).trans rfl
theorem ss_swap (S : Stat K base) {ts vs : List PySem.Expr} {x1 x2 : Nat} {p p' pos : Pos} {xs : List Nat} (hn : namesCodes? sc ts = some xs) (hc : (swapOk ts vs && sameLine ts && decide xs.Nodup) = true) :
   SS prog w base n sc (.Assign [.Tuple ts x1 p] (.Tuple vs x2 p') pos) (.assignN xs (vs.map (cE 40 sc))) := by
 intro A E env ρ H s Q R c F O h
 simp only [Bool.and_eq_true] at hc
 obtain ⟨⟨ho,hsl⟩,hd⟩ := hc
 have hd : xs.Nodup := by simpa using hd
 have hline : ∀ t ∈ ts,t.pos.line = (ts.head?.map (·.pos.line)).getD 0 := by
   intro t ht
   unfold sameLine at hsl
   rw [List.all_eq_true] at hsl
   simpa using hsl t ht
 obtain ⟨ids,a1,a2,a3,a4⟩ := names_ids _ hn hline F.names
 have hids := ids_nodup a2 hd a4
 have hsw := swapped_at (x1 := x1) (x2 := x2) (p := p) (p' := p') (blockKind_fn F) ho a1 (by rw [a2,a3]) hids
 have hstar : noStars vs = true := by
   unfold swapOk at ho
   simp only [Bool.and_eq_true,Bool.not_eq_true'] at ho
   have h3 := ho.1.1.2
   unfold noStars
   rw [List.all_eq_true]
   rw [List.any_eq_false] at h3
   intro e he
   have := h3 e he
   cases e <;> first | rfl | exact absurd rfl this
 have hlen : ts.length = 2 ∨ ts.length = 3 := by
   unfold swapOk at ho
   simp only [Bool.and_eq_true,Bool.not_eq_true',Bool.or_eq_true] at ho
   simpa using ho.1.1.1.1
 have hvl : vs.length = ts.length := by
   unfold swapOk at ho
   simp only [Bool.and_eq_true,Bool.not_eq_true',Bool.or_eq_true] at ho
   simpa using ho.1.1.1.2
 rw [exec_Assign_arm]
 refine wpAny_bind (wpAny_standAt (wpAny_bind ?_))
 refine (?_ : wpAny _ _ (pure false) _ _ _)
 refine wpAny_pure ?_
 rw [if_neg (by decide)]
 refine wpAny_bind (wpAny_Tuple (monoP (args_ok (k := 40) hstar (λ e _ => (soundE S 40 sc e).1) (R.to (by decide)) c F h) λ as us H₁ h₁ tk c₁ st r q => ⟨by rw [r.2,sizeLine_eq]; exact (ar (.i (.e N0 N1) (.i (.o (.e N1 K2) (.e N1 K3)) (.l N0 (.k 16777216)))) 2 [_,_] []) hvl hlen, ?_⟩))
 rw [hsw]
 refine wpAny_bind (wpAny_pure ?_)
 unfold assignStores
 refine wpAny_bind (wpAny_rule (wpAny_bind ?_))
 obtain ⟨q0,q1⟩ := q
 have hus : us.length = as.length := vrels_length r.1
 have hs : us.toArray.size = ids.length := by rw [List.size_toArray,r.2,hvl,a3,a2]
 rw [← hs]
 obtain ⟨c₂,st₂⟩ := c₁.grown (push_keep { cls := .type "tuple",data := .seq us.toArray })
 refine wpAny_unpackItems_tuple R.handled ⟨_,Heap.get?_push_size _ rfl,rfl,0,rfl⟩ λ h₃ he => ?_
 have k₃ : ∀ b o,(h₁.push { cls := .type "tuple",data := .seq us.toArray }).get? b = some o → h₃.get? b = some o := λ b o e => he b o (λ z => by subst z; rw [none_size] at e; exact nn e) e
 obtain ⟨c₃,st₃⟩ := c₂.grown k₃
 have stt := (st.trans st₂).trans st₃
 have r₃ : vrels h₃ (foot H₁) as us := vrels_step st₃ (vrels_step st₂ r.1)
 refine wpAny_bind (names_bind (s := { s with heap := h₃,toks := tk }) (xs := xs.reverse) (as := as.reverse) O.loc (by simp [a2]) (λ j x i hx hi => ?_) (by simp [q0]) c₃ (F.step stt) (vrels_reverse r₃) λ h₄ tk₄ c₄ F₄ st₄ => ?_)
 · have hj : j < ids.length := by
     have := (List.getElem?_eq_some_iff.mp hx).1
     simpa using this
   rw [List.getElem?_reverse hj] at hx
   rw [List.getElem?_reverse (by exact (ar (.i (.e N0 N1) (.i (.t N2 N0) (.t N2 N1))) 3 [_,_,_] []) a2 hj)] at hi
   rw [← a2] at hi
   exact a4 _ x i hx hi
 · refine wpAny_pure (EF.next c₄ (stt.own.trans (st₄.weaken λ _ e => .inl e)) F₄ ?_ |> λ x => x)
   have : upds ρ xs.reverse as.reverse = upds ρ xs as := by
     rcases hlen with e | e
     · obtain ⟨a,b,rfl⟩ := len_two (a3.symm.trans e)
       obtain ⟨x,y,rfl⟩ := len_two (q0.symm.trans (a3.symm.trans e))
       exact nodup2 hd
     · obtain ⟨a,b,c,rfl⟩ := len_three (a3.symm.trans e)
       obtain ⟨x,y,z,rfl⟩ := len_three (q0.symm.trans (a3.symm.trans e))
       exact nodup3 hd
   rw [this]; exact q1
end

end P_S26

section P_S27
open PySem PySem.W PySem.Calls PyProof.Rows PySem.SeqAt

section
variable {prog : Program} {w : World} {K : Frag} {base : Heap} {A : Around} {E : Value → Shared → Prop} {s : Shared} {H : AHeap} {env : Env} {sc : Sco} {ρ : Locals} {n k : Nat} {Q : SPost}
theorem ss_if (S : Stat K base) {t : PySem.Expr} {a b : List PySem.Stmt} {pos : Pos} {ma mb : List MS} (ia : SSs prog w base n sc a ma) (ib : SSs prog w base n sc b mb) : SS prog w base n sc (.If t a b pos) (.ite (cE 40 sc t) ma mb) := by
 intro A E env ρ H s Q R c F O h
 refine wpAny_If (monoP ((soundE S 40 sc t).2 (R.to (by decide)) c F h) λ u v H₁ h₁ tk c₁ st r q => ?_)
 cases r
 cases u
 · exact wpAny_mono (ib (s := { s with heap := h₁,toks := tk }) R c₁ (F.step st) O (q.2 rfl)) (λ _ _ p => EF.chain (s := s) st.own p) λ _ _ x => x
 · exact wpAny_mono (ia (s := { s with heap := h₁,toks := tk }) R c₁ (F.step st) O (q.1 rfl)) (λ _ _ p => EF.chain (s := s) st.own p) λ _ _ x => x
theorem sss_nil : SSs prog w base n sc [] [] := by
 intro A E env ρ H s Q R c F O h
 exact wpAny_execs_nil ⟨.next,ρ,H,s.heap,s.toks,rfl,c,.refl,F,rfl,h⟩
theorem sss_cons {st : PySem.Stmt} {m : MS} {sts : List PySem.Stmt} {ms : List MS} (i1 : SS prog w base n sc st m) (i2 : SSs prog w base n sc sts ms) : SSs prog w base n sc (st :: sts) (m :: ms) := by
 intro A E env ρ H s Q R c F O h
 refine wpAny_execs_cons (wpAny_mono (i1 R c F O h) (λ f s' p => ?_) λ _ _ x => x)
 obtain ⟨mf,ρ',H',h',tk,rfl,c',st',F',r,q⟩ := p
 cases mf with
 | next =>
   cases r
   exact wpAny_mono (i2 (s := { s with heap := h',toks := tk }) R c' F' O q) (λ _ _ p => EF.chain (s := s) st' p) λ _ _ x => x
 | ret a =>
   obtain ⟨v,rfl,r⟩ := r
   exact ⟨.ret a,ρ',H',h',tk,rfl,c',st',F',⟨v,rfl,r⟩,q⟩
theorem ss_while (S : Stat K base) {t : PySem.Expr} {b : List PySem.Stmt} {pos : Pos} {mb : List MS} (ib : SSs prog w base n sc b mb) : SS prog w base n sc (.While t b [] pos) (.while (cE 40 sc t) mb) := by
 intro A E env ρ H s Q R c F O h
 obtain ⟨I,m₀,hI,turn⟩ : ∃ (I : Nat → Locals → AHeap → Prop) (m : Nat),I m ρ H ∧ ∀ m ρ H,I m ρ H → mT (RC prog w base n) (cE 40 sc t) (mE (RC prog w base n) (cE 40 sc t) ρ H) ρ H λ r H' =>
     (r = true → mSs (RC prog w base n) mb ρ H' λ f ρ₁ H₁ => match f with
       | .next => ∃ m',m' < m ∧ I m' ρ₁ H₁
       | .ret v => Q (.ret v) ρ₁ H₁) ∧ (r = false → Q .next ρ H') := h
 refine wpAny_While (codeAny_whileLoop (λ m s' => ∃ ρ' H' h' tk,s' = { s with heap := h',toks := tk } ∧ Conc prog w base H' h' ∧ Step (ownX env sc) H s.heap H' h' ∧ FrameRel env sc ρ' H' h' ∧ I m ρ' H') ?_ m₀ ⟨ρ,H,s.heap,s.toks,rfl,c,.refl,F,hI⟩)
 rintro m s' ⟨ρ',H',h',tk,rfl,c',st',F',hI'⟩
 refine monoP ((soundE S 40 sc t).2 (s := { s with heap := h',toks := tk }) (R.to (by decide)) c' F' (turn m ρ' H' hI')) λ u v H₁ h₁ tk₁ c₁ st₁ r q => ?_
 cases r
 have stt := st'.trans st₁.own
 cases u
 · simp only [Bool.false_eq_true,if_false]
   exact wpAny_execs_nil ⟨.next,ρ',H₁,h₁,tk₁,rfl,c₁,stt,F'.step st₁,rfl,q.2 rfl⟩
 · simp only [if_true]
   refine wpAny_mono (ib (s := { s with heap := h₁,toks := tk₁ }) R c₁ (F'.step st₁) O (q.1 rfl)) (λ f s' p => ?_) λ _ _ x => x
   obtain ⟨mf,ρ₂,H₂,h₂,tk₂,rfl,c₂,st₂,F₂,r₂,q₂⟩ := p
   cases mf with
   | next =>
     cases r₂
     obtain ⟨m',lt,hI₂⟩ := q₂
     exact ⟨m',lt,ρ₂,H₂,h₂,tk₂,rfl,c₂,stt.trans st₂,F₂,hI₂⟩
   | ret a =>
     obtain ⟨v,rfl,r₂⟩ := r₂
     exact ⟨.ret a,ρ₂,H₂,h₂,tk₂,rfl,c₂,stt.trans st₂,F₂,⟨v,rfl,r₂⟩,q₂⟩
inductive ForI (prog : Program) (w : World) (base : Heap) (env : Env) (sc : Sco) (H : AHeap) (St : Nat → Heap → Prop) (I : Addr) (avs : List AV) (same : AHeap → Prop) (Go : List AV → Locals → AHeap → Prop) (s : Shared) (m : Nat) (s' : Shared) : Prop
 | mk (j : Nat) (ρ' : Locals) (H' : AHeap) (h' : Heap) (tk : Nat) (e : s' = { s with heap := h',toks := tk }) (em : m = avs.length - j) (hj : j ≤ avs.length) (hs : same H') (c : Conc prog w base H' h') (st : Step (ownX env sc) H s.heap H' h') (F : FrameRel env sc ρ' H' h') (it : St j h') (nI : ¬ foot H' I) (hm : Go (avs.drop j) ρ' H')
theorem for_ok {avs : List AV} {same : AHeap → Prop} {St : Nat → Heap → Prop} {I : Addr} {t : PySem.Expr} {b : List PySem.Stmt} {mb : List MS} {xs : List Nat} {one : Bool} {h₂ : Heap} {tk₂ : Nat} (ib : SSs prog w base n sc b mb)
   (R : Re A n 45) (ok : ItOk prog w base A I avs same St) (ht : target? sc t = some (xs,one)) (O : Own base env sc)
   (c : Conc prog w base H s.heap) (F : FrameRel env sc ρ H s.heap) (gr : ∀ b o,s.heap.get? b = some o → h₂.get? b = some o) (hI : s.heap.get? I = none) (it₂ : St 0 h₂) (hsame : same H)
   (h : mFor (bindT xs one) same (λ ρ' H' Q' => mSs (RC prog w base n) mb ρ' H' Q') avs ρ H Q) :
   codeAny (model prog w) A (.forLoop t (.ref I) b [] env) (λ r s' => match r with | .ok f => EF prog w base env sc s H Q f s' | .error e => cameBackBy (model prog w) A env E e s') { s with heap := h₂,toks := tk₂ } := by
 have bn : base.get? I = none := by
   cases q : base.get? I with
   | none => rfl
   | some o => rw [c.keep I o q] at hI; exact sn hI
 have nX : ¬ ownX env sc I := by
   rintro (e | ⟨x,i,hi,hk,hc⟩)
   · obtain ⟨m,⟨o,_,_,ho,_⟩,_⟩ := F.loc
     rw [← e,hI] at ho; exact nn ho
   · obtain ⟨c0,v0,e0,⟨o0,ho0,_⟩,_⟩ := F.cel x i hi hk
     rw [hc] at e0; cases e0
     rw [hI] at ho0; exact nn ho0
 have nl : I ≠ env.locals := λ e => nX (.inl e)
 obtain ⟨c₂,st₂⟩ := c.grown gr
 refine codeAny_forLoop_any (ForI prog w base env sc H St I avs same (λ l ρ' H' => mFor (bindT xs one) same (λ ρ' H' Q' => mSs (RC prog w base n) mb ρ' H' Q') l ρ' H' Q) s) ?_ (avs.length - 0) ⟨0,ρ,H,h₂,tk₂,rfl,rfl,Nat.zero_le _,hsame,c₂,st₂.own,F.step st₂,it₂,(c.none_of hI).2,h⟩
 rintro m s' ⟨j,ρ',H',h',tk,rfl,rfl,hj,hs',c',st',F',it',nI',hm⟩
 have pI : Priv base H' h' (· = I) := ok.priv it' ok nI' bn
 by_cases hlt : j < avs.length
 · have hd : avs.drop j = avs[j] :: avs.drop (j + 1) := List.drop_eq_getElem_cons hlt
   rw [hd] at hm
   obtain ⟨ρ₁,hb,hbody⟩ := hm
   refine ok.item (i := j) (a := avs[j]) (H := H') (by simp) c' hs' it' λ v h₃ tk₃ rv it₃ b₃ => ?_
   have tm₃ := b₃.tm pI
   have c₃ := c'.beside pI b₃
   have F₃ : FrameRel env sc ρ' H' h₃ := F'.beside pI b₃ (Ne.symm nl) λ x i cl hi hk hc z => nX (.inr ⟨x,i,hi,hk,z ▸ hc⟩)
   have st₃ : Step (ownX env sc) H s.heap H' h₃ := st'.then_beside b₃ λ y e => e ▸ hI
   obtain ⟨o,T,ho,hcl,hT⟩ := ok.live it₃
   refine wpAny_letOwned (s := { s with heap := h₃,toks := tk₃ }) ho hcl hT ?_
   refine assign_target (s := { s with heap := h₃,toks := tk₃ }) R.handled O.loc ht hb c₃ F₃ (vrel_tm tm₃ rv) λ h₄ tk₄ c₄ F₄ st₄ => ?_
   have st₄' := st₃.trans (st₄.weaken (Y := ownX env sc) λ _ e => .inl e)
   have hoI₄ : h₄.get? I = some o := st₄.keep I o ho nI' nl
   have it₄ : St (j + 1) h₄ := ok.frame it₃ λ o e => st₄.keep I o e nI' nl
   refine wpAny_mono (ib (s := { s with heap := h₄,toks := tk₄ }) R c₄ F₄ O hbody) (λ f s' p => ?_) λ _ _ x => x
   obtain ⟨mf,ρ₅,H₅,h₅,tk₅,rfl,c₅,st₅,F₅,r₅,q₅⟩ := p
   cases mf with
   | next =>
     cases r₅
     have nI₅ : ¬ foot H₅ I := λ f => (st₅.foot I f).elim nI' λ e => by rw [hoI₄] at e; exact sn e
     exact ⟨avs.length - (j + 1),by exact (ar (.i (.t N0 N1) (.t (.s N1 (.a N0 K1)) (.s N1 N0))) 2 [_,_] []) hlt,j + 1,ρ₅,H₅,h₅,tk₅,rfl,rfl,hlt,q₅.1,c₅,st₄'.trans st₅,F₅,ok.frame it₄ (λ o e => st₅.keep I o e nI' nX),nI₅,q₅.2⟩
   | ret a =>
     obtain ⟨v,rfl,r₅⟩ := r₅
     exact ⟨.ret a,ρ₅,H₅,h₅,tk₅,rfl,c₅,st₄'.trans st₅,F₅,⟨v,rfl,r₅⟩,q₅⟩
 · have hj' : j = avs.length := by exact (ar (.i (.l N0 N1) (.i (.i (.t N0 N1) .f) (.e N0 N1))) 2 [_,_] []) hj hlt
   subst hj'
   rw [List.drop_length] at hm
   refine ok.done (i := avs.length) (H := H') (Nat.le_refl _) c' hs' it' λ h₃ tk₃ b₃ => ?_
   exact wpAny_execs_nil ⟨.next,ρ',H',h₃,tk₃,rfl,c'.beside pI b₃,st'.then_beside b₃ (λ y e => e ▸ hI),F'.beside pI b₃ (Ne.symm nl) λ x i cl hi hk hc z => nX (.inr ⟨x,i,hi,hk,z ▸ hc⟩),rfl,hm⟩
theorem cS_for (k : Nat) (t it : PySem.Expr) (b : List PySem.Stmt) (pos : Pos) : cS (k + 1) sc (.For t it b [] pos) = if isSet it then .stop else forS (target? sc t) (rangeArg? sc it) (cE 40 sc) it (b.map (cS k sc)) := rfl
theorem ss_for (S : Stat K base) {t it : PySem.Expr} {b : List PySem.Stmt} {pos : Pos} (ib : SSs prog w base n sc b (b.map (cS k sc))) : SS prog w base n sc (.For t it b [] pos) (cS (k + 1) sc (.For t it b [] pos)) := by
 intro A E env ρ H s Q R c F O h
 rw [cS_for] at h
 by_cases hset : isSet it = true
 · rw [if_pos hset] at h; exact h.elim
 · rw [if_neg hset] at h
   refine wpAny_For ?_ (not_set (by simpa using hset))
   cases ht : target? sc t with
   | none => rw [ht] at h; exact h.elim
   | some p =>
   rw [ht] at h
   cases hr : rangeArg? sc it with
   | some e =>
     rw [hr] at h
     by_cases z : (p.2 && p.1.length == 1) = true
     case neg => exact (show False by have h : mS _ (if (p.2 && p.1.length == 1) = true then _ else _) _ _ _ := h; rw [if_neg z] at h; exact h).elim
     replace h : mS _ (if (p.2 && p.1.length == 1) = true then _ else _) _ _ _ := h
     rw [if_pos z] at h
     have ht := ht.trans (congrArg some (one_of z))
     generalize p.1.headD 0 = x at *
     obtain ⟨id',p',x',rfl,hk',hg',hs'⟩ := rangeArg_of hr
     refine blt_raw S hk' hg' hs' (soundE S 40 sc e).1 (R.to (by decide)) c F h λ a v H₁ h₁ tk c₁ st r q => ?_
     obtain ⟨i,rfl,q1,q2,q3⟩ := with_int q
     obtain ⟨tt,rfl⟩ := r
     refine iter_range (base := base) (s := { s with heap := h₁,toks := tk }) R.handled q1 q2 λ I h₂ tk₂ ok hI gr it₂ => ?_
     refine codeAny_mono (for_ok (E := E) (s := { s with heap := h₁,toks := tk }) ib R ok ht O c₁ (F.step st) gr hI it₂ trivial q3) λ r s' z => ?_
     cases r
     · exact z
     · exact EF.chain (s := s) st.own z
   | none =>
     rw [hr] at h
     obtain ⟨xs,one⟩ := p
     refine monoP ((soundE S 40 sc it).1 (R.to (by decide)) c F h) λ a v H₁ h₁ tk c₁ st r q => ?_
     obtain ⟨l,avs,rfl,hl,q⟩ := with_list q
     cases r
     refine iter_list (s := { s with heap := h₁,toks := tk }) R.handled c₁ hl λ I h₂ ok hI gr it₂ => ?_
     refine codeAny_mono (for_ok (E := E) (s := { s with heap := h₁,toks := tk }) (tk₂ := tk) ib R ok ht O c₁ (F.step st) gr hI it₂ hl q) λ r s' z => ?_
     cases r
     · exact z
     · exact EF.chain (s := s) st.own z
theorem sss_of {k : Nat} (ih : ∀ st,SS prog w base n sc st (cS k sc st)) : ∀ sts : List PySem.Stmt,SSs prog w base n sc sts (sts.map (cS k sc))
 | [] => sss_nil
 | st :: sts => sss_cons (ih st) (sss_of ih sts)
theorem soundS (S : Stat K base) : ∀ (k : Nat) (st : PySem.Stmt),SS prog w base n sc st (cS k sc st)
 | 0,st => ss_stop rfl
 | k + 1,st => by
   have ih := soundS S k
   cases st <;> try exact ss_stop rfl
   case Expr v pos =>
     by_cases z : isComp v = true
     · exact ss_stop (by refine (?_ : (if isComp v = true then _ else _) = _); rw [if_pos z])
     · have e : cS (k + 1) sc (.Expr v pos) = .expr (cE 40 sc v) := by refine (?_ : (if isComp v = true then _ else _) = _); rw [if_neg z]
       rw [e]; exact ss_expr S (by simpa using z)
   case Pass pos => exact ss_pass
   case Return v pos => exact ss_ret S
   case If t a b pos => exact ss_if S (sss_of ih a) (sss_of ih b)
   case While t b e pos =>
     cases e
     case nil => exact ss_while S (sss_of ih b)
     case cons => exact ss_stop rfl
   case For t it b e pos =>
     cases e
     case nil => exact ss_for S (sss_of ih b)
     case cons => exact ss_stop rfl
   case Assign ts v pos =>
     cases ts
     case nil => exact ss_stop rfl
     case cons t tr =>
     cases tr
     case cons => exact ss_stop rfl
     case nil =>
       cases t <;> try exact ss_stop rfl
       case Name id p => exact ss_assign S
       case Attribute o x p =>
         have e : cS (k + 1) sc (.Assign [.Attribute o x p] v pos) = (match atOf x with | some a => .setAttr (cE 40 sc o) a (cE 40 sc v) | none => .stop) := by
           refine (?_ : (if (isComp v && false) = true then _ else _) = _)
           rw [if_neg (by simp)]
           try (cases atOf x <;> rfl)
         rw [e]; exact ss_attr S
       case Subscript o i p =>
         by_cases z : isComp v = true
         · exact ss_stop (by refine (?_ : (if isComp v = true then _ else _) = _); rw [if_pos z])
         · have e : cS (k + 1) sc (.Assign [.Subscript o i p] v pos) = (match i with
             | .Slice (some lo) (some hi) none _ => .setSlice (cE 40 sc o) (cE 40 sc lo) (cE 40 sc hi) (cE 40 sc v)
             | .Slice .. => .stop
             | i => .setIdx (cE 40 sc o) (cE 40 sc i) (cE 40 sc v)) := by
             refine (?_ : (if isComp v = true then _ else _) = _)
             rw [if_neg z]
             try (cases i <;> first | rfl | (rename_i lo hi st p'; cases lo <;> cases hi <;> cases st <;> rfl))
           rw [e]
           cases i
           case Slice lo hi st p' =>
             cases lo <;> cases hi <;> cases st <;> first | exact ss_setSlice S | exact ss_stop rfl
           all_goals exact ss_setIdx S
       case Tuple ts x1 p =>
         cases hn : namesCodes? sc ts with
         | none =>
           have e : cS (k + 1) sc (.Assign [.Tuple ts x1 p] v pos) = .stop := by
             show (match namesCodes? sc ts with | some xs => tupV sc ts xs v | none => .stop) = .stop
             rw [hn]
           exact ss_stop e
         | some xs =>
           have e : cS (k + 1) sc (.Assign [.Tuple ts x1 p] v pos) = tupV sc ts xs v := by
             show (match namesCodes? sc ts with | some xs => tupV sc ts xs v | none => .stop) = _
             rw [hn]
           rw [e]
           cases v <;> try exact ss_stop rfl
           case Tuple vs x2 p' =>
             by_cases z : (swapOk ts vs && sameLine ts && decide xs.Nodup) = true
             · have e : tupV sc ts xs (.Tuple vs x2 p') = .assignN xs (vs.map (cE 40 sc)) := if_pos z
               rw [e]
               exact ss_swap S hn z
             · exact ss_stop (if_neg z)
           case Call f as kw p' => exact ss_unpack S hn ⟨_,_,_,_,rfl⟩
end

end P_S27

section P_S28
open PySem PySem.W PySem.Calls PyProof.Rows PySem.SeqAt

structure FnSpec (K : Frag) (f : Fn) (fd : FuncData) (body : List PySem.Stmt) (ps : List Str) (dfl : List AV) : Prop where
 at_ : ∃ o,K.lookup (fAddr f) = some o ∧ o.data = .func fd
 body : fd.body = .stmts body
 clo : fd.closure = []
 co : fd.scope.isCoroutine = false
 gen : fd.scope.isGenerator = false
 kind : fd.scope.kind = .function
 glob : fd.globals = mainGlobals
 blt : fd.builtins = builtinsNs
 code : ∃ c oc vs t,fd.code = .ref c ∧ K.lookup c = some oc ∧ oc.data = .fields vs ∧ vs[1]? = some (.str fd.qualname t)
 dbg : fd.scope.names.lookup (Str.ofString "__debug__") = none
 par : ps = (fd.scope.names.take ps.length).map (·.1)
 nodup : ps.Nodup
 vars : ∀ p ∈ ps,fd.scope.names.lookup p = some .local ∨ fd.scope.names.lookup p = some .cell
 bind : ∀ (s : Shared) (vals : List Value),K.In s.heap → vals.length + dfl.length = ps.length → ∃ dvs,(∀ h P,vrels h P dfl dvs) ∧ BindsTo s fd ⟨vals,[]⟩ (ps.zip (vals ++ dvs))
section
variable {prog : Program} {w : World} {K : Frag} {base : Heap} {A : Around} {E : Value → Shared → Prop} {s : Shared} {H : AHeap} {env : Env} {sc : Sco} {ρ : Locals} {n k : Nat} {Q : AV → AHeap → Prop}
theorem code_call {R : Result → Shared → Prop} {a : Addr} {o : Obj} {fd : FuncData} {body : List PySem.Stmt} {vals : List Value} {binds : List (Str × Value)}
   (hroom : A.depth < recursionLimit) (ho : s.heap.get? a = some o) (hdata : o.data = .func fd) (hlim : s.heap.NoLimit) (hcd : s.heap.CodeRec fd.code fd.qualname)
   (hbody : fd.body = .stmts body) (hbind : BindsTo s fd ⟨vals,[]⟩ binds) (hclo : fd.closure = [])
   (hkind : ∀ x ∈ binds,fd.scope.names.lookup x.1 = some .local ∨ (fd.scope.names.lookup x.1 = some .cell ∧ ((cellsFrom (s.heap.objs.size + 1) fd.scope.names []).lookup x.1).isSome = true))
   (h : ∀ s₁,InCallC s (callEnvC fd s.heap.objs.size a).locals (bindL (callEnvC fd s.heap.objs.size a).kindOf binds λ _ => none) (callEnvC fd s.heap.objs.size a).cells
       (bindC (callEnvC fd s.heap.objs.size a).kindOf binds λ _ => none) s₁ →
     wpAny (model prog w) (A.deeper (callEnvC fd s.heap.objs.size a)) (execs body (callEnvC fd s.heap.objs.size a)) (λ f s' => R (.ok (.ret (match f with | .ret v => v | _ => .none))) s')
       (λ e s' => wpAny (model prog w) (A.deeper (callEnvC fd s.heap.objs.size a)) (leaving (callEnvC fd s.heap.objs.size a) e) (λ _ s'' => R (.error e) s'') (λ e' s'' => R (.error e') s'') s') s₁)
   (hco : fd.scope.isCoroutine = false) (hgen : fd.scope.isGenerator = false) (hk : fd.scope.kind = .function) :
   codeAny (model prog w) A (.call (.ref a) ⟨vals,[]⟩) R s := by
 refine codeAny_call_function hroom ho hdata hco hgen hbody hcd (hbind _ _ _ _ ?_)
 rw [hclo]
 refine wpAny_newFunctionEnv_cells hk hkind λ env he s' x => ?_
 subst he
 exact ⟨hlim.keeps x.toInCall.keep,codeAny_func (h s' x)⟩
theorem zip_lookup : ∀ {names : List (Str × NameKind)} {ps : List Str} {vs : List Value} {x : Str} {kd : NameKind},ps = (names.take ps.length).map (·.1) → ps.length = vs.length → names.lookup x = some kd → (ps.zip vs).lookup x = vs[names.findIdx λ q => q.1 == x]?
 | [],ps,vs,x,kd,_,_,h => by exact nn h
 | (y,k) :: r,[],vs,x,kd,_,hl,h => by
   have : vs = [] := List.eq_nil_of_length_eq_zero hl.symm
   subst this
   simp
 | (y,k) :: r,p :: ps,[],x,kd,_,hl,h => by cases hl
 | (y,k) :: r,p :: ps,v :: vs,x,kd,he,hl,h => by
   have he : p :: ps = y :: (r.take ps.length).map (·.1) := he
   injection he with e1 e2
   subst e1
   rw [List.zip_cons_cons,List.lookup_cons,List.findIdx_cons]
   rw [List.lookup_cons] at h
   by_cases e : x = p
   · subst e; simp
   · have hb : (x == p) = false := by simpa using e
     have hb' : (p == x) = false := by simpa using λ z => e z.symm
     rw [hb] at h ⊢
     simp only [hb',cond_false,List.getElem?_cons_succ]
     exact zip_lookup e2 (by simpa using hl) h
theorem bindL_zip {kindOf : Str → Option NameKind} {x : Str} (hx : kindOf x = some .local) : ∀ {ps : List Str} {vs : List Value} {m : Str → Option Value},ps.Nodup → bindL kindOf (ps.zip vs) m x = (match (ps.zip vs).lookup x with | some v => some v | none => m x)
 | [],vs,m,_ => by simp [bindL]
 | p :: ps,[],m,_ => by simp [bindL]
 | p :: ps,v :: vs,m,h => by
   have hn := List.nodup_cons.mp h
   rw [List.zip_cons_cons,List.lookup_cons]
   refine (?_ : bindL kindOf (ps.zip vs) _ x = _)
   rw [bindL_zip hx hn.2]
   by_cases e : x = p
   · subst e
     have : (ps.zip vs).lookup x = none := by
       cases q : (ps.zip vs).lookup x with
       | none => rfl
       | some u => exact absurd (List.of_mem_zip (lookup_mem q)).1 hn.1
     rw [this]; simp [hx]
   · have hb : (x == p) = false := by simpa using e
     rw [hb]
     cases (ps.zip vs).lookup x with
     | some u => rfl
     | none => by_cases hp : kindOf p = some .local <;> simp [hp,e]
theorem bindC_zip {kindOf : Str → Option NameKind} {x : Str} (hx : kindOf x = some .cell) : ∀ {ps : List Str} {vs : List Value} {m : Str → Option Value},ps.Nodup → bindC kindOf (ps.zip vs) m x = (match (ps.zip vs).lookup x with | some v => some v | none => m x)
 | [],vs,m,_ => by simp [bindC]
 | p :: ps,[],m,_ => by simp [bindC]
 | p :: ps,v :: vs,m,h => by
   have hn := List.nodup_cons.mp h
   rw [List.zip_cons_cons,List.lookup_cons]
   refine (?_ : bindC kindOf (ps.zip vs) _ x = _)
   rw [bindC_zip hx hn.2]
   by_cases e : x = p
   · subst e
     have : (ps.zip vs).lookup x = none := by
       cases q : (ps.zip vs).lookup x with
       | none => rfl
       | some u => exact absurd (List.of_mem_zip (lookup_mem q)).1 hn.1
     rw [this]; simp [hx]
   · have hb : (x == p) = false := by simpa using e
     rw [hb]
     cases (ps.zip vs).lookup x with
     | some u => rfl
     | none => by_cases hp : kindOf p = some .local <;> simp [hp,e]
theorem cells_some : ∀ (names : List (Str × NameKind)) (m : Nat) (acc : List (Str × Addr)) (x : Str),((x,NameKind.cell) ∈ names ∨ ∃ c,(x,c) ∈ acc) → ∃ c,(cellsFrom m names acc).lookup x = some c
 | [],m,acc,x,h => by
   rcases h with h | ⟨c,h⟩
   · cases h
   · exact mem_lookup h
 | (y,k) :: r,m,acc,x,h => by
   unfold cellsFrom
   by_cases hk : k = .cell
   · subst hk
     simp only [beq_self_eq_true,if_true]
     refine cells_some r _ _ x ?_
     rcases h with h | ⟨c,h⟩
     · rcases List.mem_cons.mp h with e | h
       · cases e; exact .inr ⟨m,.head _⟩
       · exact .inl h
     · exact .inr ⟨c,.tail _ h⟩
   · have hb : (k == NameKind.cell) = false := by simpa using hk
     rw [hb]
     refine cells_some r _ _ x ?_
     rcases h with h | h
     · rcases List.mem_cons.mp h with e | h
       · cases e; exact absurd rfl hk
       · exact .inl h
     · exact .inr h
theorem vrels_at {h : Heap} {P : Addr → Prop} {xs : List AV} {vs : List Value} (r : vrels h P xs vs) (i : Nat) : orel h P xs[i]? vs[i]? := by
 cases e : xs[i]? with
 | some a =>
   obtain ⟨v,hv,q⟩ := vrels_get r e
   exact ⟨v,hv,q⟩
 | none =>
   refine (?_ : vs[i]? = none)
   have := List.getElem?_eq_none_iff.mp e
   exact List.getElem?_eq_none_iff.mpr (by rw [vrels_length r]; exact this)
theorem call_intro (S : Stat K base) {f : Fn} {fd : FuncData} {body : List PySem.Stmt} {ps : List Str} {dfl args : List AV} (G : FnSpec K f fd body ps dfl) (hlen : args.length + dfl.length = ps.length)
   (h : mSs (RC prog w base n) (body.map (cS 20 (scoOf fd.scope.names))) (λ i => (args ++ dfl)[i]?) H λ mf _ H' => match mf with | .next => Q .none H' | .ret v => Q v H') :
   RC prog w base (n + 1) f args H Q := by
 intro A s vs R c r
 obtain ⟨o,ho,hd⟩ := G.at_
 have X := S.at c
 obtain ⟨dvs,hdv,hb⟩ := G.bind s vs X (by rw [vrels_length r]; exact hlen)
 have hr : vrels s.heap (foot H) (args ++ dfl) (vs ++ dvs) := vrels_append r (hdv _ _)
 have hlv : ps.length = (vs ++ dvs).length := by rw [vrels_length hr,List.length_append,hlen]
 have hlim : s.heap.NoLimit := S.lim.keeps c.keep
 have hcode : s.heap.CodeRec fd.code fd.qualname := by
   obtain ⟨cc,oc,vs,t,e1,e2,e3,e4⟩ := G.code
   exact ⟨cc,oc,vs,t,e1,X _ _ e2,e3,e4⟩
 have hsn : ∀ a,s.heap.objs.size ≤ a → s.heap.get? a = none := λ a ha => by
   cases e : s.heap.get? a with
   | none => rfl
   | some o => exact absurd (Heap.lt_size e) (Nat.not_lt.mpr ha)
 have bn : ∀ b,s.heap.get? b = none → base.get? b = none := λ b e => by
   cases q : base.get? b with
   | none => rfl
   | some o => rw [c.keep b o q] at e; exact sn e
 refine code_call (by have := R.depth; refine (?_ : A.depth < 1000); exact (ar (.i (.l (.a (.a N0 (.m 50 (.a N1 K1))) (.k 10)) (.k 990)) (.t N0 KK)) 2 [_,_] []) this) (X _ _ ho) hd hlim hcode G.body hb G.clo (λ x hx => ?_) (λ s₁ x => ?_) G.co G.gen G.kind
 · obtain ⟨y,v⟩ := x
   have hy := (List.of_mem_zip hx).1
   rcases G.vars y hy with e | e
   · exact .inl e
   · obtain ⟨c,hc⟩ := cells_some fd.scope.names (s.heap.objs.size + 1) [] y (.inl (lookup_mem e))
     exact .inr ⟨e,by rw [hc]; rfl⟩
 · obtain ⟨h₁,tk,rfl,keep⟩ := x.done
   obtain ⟨c₁,st₁⟩ := c.grown keep
   have above : ∀ y cl,(callEnvC fd s.heap.objs.size (fAddr f)).cells.lookup y = some cl → s.heap.get? cl = none ∧ cl ≠ s.heap.objs.size := λ y cl e => by
     have := x.above y cl (lookup_mem e)
     have : s.heap.objs.size < cl := this
     exact ⟨hsn cl (Nat.le_of_lt this),Nat.ne_of_gt this⟩
   have isV : ∀ y i,(scoOf fd.scope.names).code y = some i → isVar (fd.scope.names.lookup y) = true ∧ i = idxOf fd.scope.names y := λ y i e => by
     have e : (if isVar (fd.scope.names.lookup y) = true then some (idxOf fd.scope.names y) else none) = some i := e
     split at e
     · rename_i z; exact ⟨z,(Option.some.inj e).symm⟩
     · exact nn e
   have F : FrameRel (callEnvC fd s.heap.objs.size (fAddr f)) (scoOf fd.scope.names) (λ i => (args ++ dfl)[i]?) H h₁ := by
     refine ⟨G.kind,λ _ => rfl,G.glob,G.blt,λ y i e => ?_,λ y z i e1 e2 => ?_,⟨_,x.toInCall.ns,λ y i e hk => ?_⟩,λ y i e hk => ?_,(c.none_of (hsn _ (Nat.le_refl _))).2,λ y i cl e hk hc => ?_,λ y z i j cl e1 k1 e2 k2 h1 h2 => ?_, ?_⟩
     · obtain ⟨z,_⟩ := isV y i e
       refine (?_ : fd.scope.names.lookup y = _ ∨ fd.scope.names.lookup y = _)
       cases q : fd.scope.names.lookup y with
       | none => rw [q] at z; exact ft z
       | some kd => rw [q] at z; cases kd <;> first | exact .inl rfl | exact .inr rfl | cases z
     · obtain ⟨z1,rfl⟩ := isV y i e1
       obtain ⟨z2,e3⟩ := isV z _ e2
       cases q1 : fd.scope.names.lookup y with
       | none => rw [q1] at z1; exact ft z1
       | some k1 =>
         cases q2 : fd.scope.names.lookup z with
         | none => rw [q2] at z2; exact ft z2
         | some k2 => exact idx_inj q1 q2 e3
     · obtain ⟨_,rfl⟩ := isV y i e
       have hk : fd.scope.names.lookup y = some .local := hk
       rw [bindL_zip (kindOf := (callEnvC fd s.heap.objs.size (fAddr f)).kindOf) hk G.nodup,zip_lookup G.par hlv hk]
       have := vrels_at (vrels_step st₁ hr) (idxOf fd.scope.names y)
       refine (?_ : orel h₁ (foot H) _ _)
       have e : (match (vs ++ dvs)[List.findIdx (λ q => q.1 == y) fd.scope.names]? with | some v => some v | none => none) = (vs ++ dvs)[idxOf fd.scope.names y]? := by
         refine (?_ : _ = (vs ++ dvs)[List.findIdx (λ q => q.1 == y) fd.scope.names]?)
         cases (vs ++ dvs)[List.findIdx (λ q => q.1 == y) fd.scope.names]? <;> rfl
       rw [e]; exact this
     · obtain ⟨_,rfl⟩ := isV y i e
       have hk : fd.scope.names.lookup y = some .cell := hk
       obtain ⟨cl,hc⟩ := cells_some fd.scope.names (s.heap.objs.size + 1) [] y (.inl (lookup_mem hk))
       have := x.cell y cl hc
       rw [bindC_zip (kindOf := (callEnvC fd s.heap.objs.size (fAddr f)).kindOf) hk G.nodup,zip_lookup G.par hlv hk] at this
       refine ⟨cl,_,hc,this, ?_⟩
       have := vrels_at (vrels_step st₁ hr) (idxOf fd.scope.names y)
       have e : (match (vs ++ dvs)[List.findIdx (λ q => q.1 == y) fd.scope.names]? with | some v => some v | none => none) = (vs ++ dvs)[idxOf fd.scope.names y]? := by
         refine (?_ : _ = (vs ++ dvs)[List.findIdx (λ q => q.1 == y) fd.scope.names]?)
         cases (vs ++ dvs)[List.findIdx (λ q => q.1 == y) fd.scope.names]? <;> rfl
       rw [e]; exact this
     · obtain ⟨a1,a2⟩ := above y cl hc
       exact ⟨(c.none_of a1).2,a2⟩
     · exact name_of_addr x.apart (lookup_mem h1) (lookup_mem h2)
     · refine ⟨G.dbg, ?_⟩
       refine (?_ : (if isVar (fd.scope.names.lookup (Str.ofString "__debug__")) = true then _ else none) = none)
       rw [G.dbg]; rfl
   have O : Own base (callEnvC fd s.heap.objs.size (fAddr f)) (scoOf fd.scope.names) := ⟨bn _ (hsn _ (Nat.le_refl _)),λ y i cl e hk hc => bn _ (above y cl hc).1⟩
   have R' : Re (A.deeper (callEnvC fd s.heap.objs.size (fAddr f))) n 45 := ⟨R.handled,by have := R.depth; refine (?_ : A.depth + 1 + 50 * n + 12 + 45 ≤ 990); exact (ar (.i (.l (.a (.a N0 (.m 50 (.a N1 K1))) (.k 10)) (.k 990)) (.l (.a (.a (.a (.a N0 K1) (.m 50 N1)) (.k 12)) (.k 45)) (.k 990))) 2 [_,_] []) this,by have := R.units; refine (?_ : A.units + 3 + 500 * n + 120 + 10 * 45 ≤ 9000); exact (ar (.i (.l (.a (.a N0 (.m 500 (.a N1 K1))) (.k 100)) (.k 9000)) (.l (.a (.a (.a (.a N0 K3) (.m 500 N1)) (.k 120)) (.m 10 (.k 45))) (.k 9000))) 2 [_,_] []) this⟩
   refine wpAny_mono (sss_of (soundS S 20) body (s := { s with heap := h₁,toks := tk }) R' c₁ F O h) (λ fl s' p => ?_) λ _ _ x => x
   obtain ⟨mf,ρ',H',h',tk',rfl,c',st',F',rr,q⟩ := p
   have stt : Step noX H s.heap H' h' := (st₁.own.trans st').drop λ y hy => by
     rcases hy with rfl | ⟨z,i,e,hk,hc⟩
     · exact hsn _ (Nat.le_refl _)
     · exact (above z y hc).1
   cases mf with
   | next =>
     cases rr
     exact ⟨.none,rfl,.none,H',h',tk',rfl,c',stt,vrel_none,q⟩
   | ret a =>
     obtain ⟨v,rfl,rr⟩ := rr
     exact ⟨v,rfl,a,H',h',tk',rfl,c',stt,rr,q⟩
end

end P_S28

section P_C0
open PySem

noncomputable def b_need_writable : List MS := [
 .ite (.attr (.var 0) .is_read_only) [.stop] []]
noncomputable def b_reached : List MS := [
 .assignN [3,4] [(.min (.var 1) (.var 2)),(.max (.var 1) (.var 2))],
 .ite (.or [(.cmp .lt (.var 3) (.attr (.var 0) .begv)),(.cmp .gt (.var 4) (.attr (.var 0) .zv))]) [.stop] [],
 .ret (some (.tup [(.var 3),(.var 4)]))]
noncomputable def b_tell_ahead : List MS := [
 .forList [3] true (.list (.attr (.var 0) .listeners)) [.expr .stop]]
noncomputable def b_tell_behind : List MS := [
 .expr (.meth (.var 0) .touch [(.bool true)]),
 .forList [4] true (.list (.attr (.var 0) .listeners)) [.expr .stop]]
noncomputable def b_text_out : List MS := [
 .ite (.cmp .isNot (.attr (.var 0) .undo) .none) [.expr (.meth (.attr (.var 0) .undo) .text_goes [(.var 0),(.var 1),(.var 2)])] [],
 .assign 3 (.meth (.attr (.var 0) .text) .delete [(.bin .sub (.var 1) (.int 1)),(.bin .sub (.var 2) (.int 1))]),
 .setAttr (.var 0) .zv (.bin .sub (.attr (.var 0) .zv) (.bin .sub (.var 2) (.var 1))),
 .ite (.cmp .gt (.attr (.var 0) .point) (.var 1)) [.setAttr (.var 0) .point (.max (.var 1) (.bin .sub (.attr (.var 0) .point) (.bin .sub (.var 2) (.var 1))))] [],
 .ret (some (.var 3))]
noncomputable def b_text_in : List MS := [
 .ite (.cmp .isNot (.attr (.var 0) .undo) .none) [.expr (.meth (.attr (.var 0) .undo) .text_comes [(.var 0),(.var 1),(.len (.var 2))])] [],
 .expr (.meth (.attr (.var 0) .text) .insert [(.bin .sub (.var 1) (.int 1)),(.var 2)]),
 .setAttr (.var 0) .zv (.bin .add (.attr (.var 0) .zv) (.len (.var 2))),
 .ite (.cmp .gt (.attr (.var 0) .point) (.var 1)) [.setAttr (.var 0) .point (.bin .add (.attr (.var 0) .point) (.len (.var 2)))] []]
noncomputable def b_hung_out : List MS := [
 .ite (.cmp .isNot (.attr (.var 0) .props) .none) [.expr .stop] [],
 .ite (.cmp .isNot (.attr (.var 0) .overlays) .none) [.expr .stop] []]
noncomputable def b_hung_in : List MS := [
 .ite (.cmp .isNot (.attr (.var 0) .props) .none) [.expr .stop] [],
 .ite (.cmp .isNot (.attr (.var 0) .overlays) .none) [.expr .stop] []]
noncomputable def b_put_in : List MS := [
 .expr (.call .need_writable [(.var 0)]),
 .expr (.call .reached [(.var 0),(.var 1),(.var 1)]),
 .ite (.cmp .eq (.len (.var 2)) (.int 0)) [.ret none] [],
 .expr (.call .tell_ahead [(.var 0),(.var 1),(.var 1)]),
 .expr (.call .text_in [(.var 0),(.var 1),(.var 2)]),
 .ite (.var 4) [.setAttr (.var 0) .point (.bin .add (.var 1) (.len (.var 2)))] [],
 .expr (.meth (.attr (.var 0) .markers) .inserted [(.var 1),(.bin .add (.var 1) (.len (.var 2))),(.var 3)]),
 .expr (.call .hung_in [(.var 0),(.var 1),(.len (.var 2)),(.var 3)]),
 .expr (.call .tell_behind [(.var 0),(.var 1),(.bin .add (.var 1) (.len (.var 2))),(.int 0)])]
noncomputable def b_insert : List MS := [
 .expr (.call .put_in [(.var 0),(.attr (.var 0) .point),(.var 1),(.var 2),(.bool true)])]
noncomputable def b_delete : List MS := [
 .expr (.call .need_writable [(.var 0)]),
 .unpack [3,4] (.call .reached [(.var 0),(.var 1),(.var 2)]),
 .ite (.cmp .eq (.var 3) (.var 4)) [.ret (some (.lst []))] [],
 .expr (.call .tell_ahead [(.var 0),(.var 3),(.var 4)]),
 .assign 5 (.call .text_out [(.var 0),(.var 3),(.var 4)]),
 .expr (.meth (.attr (.var 0) .markers) .deleted [(.var 3),(.var 4)]),
 .expr (.call .hung_out [(.var 0),(.var 3),(.var 4)]),
 .expr (.call .tell_behind [(.var 0),(.var 3),(.var 3),(.bin .sub (.var 4) (.var 3))]),
 .ret (some (.var 5))]
noncomputable def b_replace : List MS := [
 .expr (.call .need_writable [(.var 0)]),
 .unpack [4,5] (.call .reached [(.var 0),(.var 1),(.var 2)]),
 .ite (.cmp .eq (.var 4) (.var 5)) [.expr .stop,.ret (some (.lst []))] [],
 .ite (.cmp .eq (.len (.var 3)) (.int 0)) [.ret (some (.call .delete [(.var 0),(.var 4),(.var 5)]))] [],
 .assign 6 (.attr (.var 0) .point),
 .expr (.call .tell_ahead [(.var 0),(.var 4),(.var 5)]),
 .assign 7 (.call .text_out [(.var 0),(.var 4),(.var 5)]),
 .expr (.call .text_in [(.var 0),(.var 4),(.var 3)]),
 .ite (.cmp .ge (.var 6) (.var 5)) [.setAttr (.var 0) .point (.bin .sub (.bin .add (.var 6) (.len (.var 3))) (.bin .sub (.var 5) (.var 4)))] [],
 .expr (.meth (.attr (.var 0) .markers) .replaced [(.var 4),(.var 5),(.len (.var 3))]),
 .expr (.call .hung_out [(.var 0),(.var 4),(.var 5)]),
 .expr (.call .hung_in [(.var 0),(.var 4),(.len (.var 3)),(.bool false)]),
 .expr (.call .tell_behind [(.var 0),(.var 4),(.bin .add (.var 4) (.len (.var 3))),(.bin .sub (.var 5) (.var 4))]),
 .ret (some (.var 7))]
noncomputable def b_insert_piece : List MS := [
 .assign 2 (.attr (.var 0) .point),
 .expr (.call .insert [(.var 0),(.attr (.var 1) .codes)]),
 .ite (.and [(.cmp .isNot (.attr (.var 0) .props) .none),(.cmp .gt (.len (.attr (.var 1) .codes)) (.int 0))]) [.assign 3 (.lst [(.tup [(.bin .sub (.var 2) (.int 1)),(.bin .add (.bin .sub (.var 2) (.int 1)) (.len (.attr (.var 1) .codes))),(.lst [])])]),.assign 3 (.bin .add (.var 3) (.comp [101,102,103] false (.attr (.var 1) .runs) none (.tup [(.bin .add (.bin .sub (.var 2) (.int 1)) (.var 101)),(.bin .add (.bin .sub (.var 2) (.int 1)) (.var 102)),(.list (.var 103))]))),.expr .stop] []]
noncomputable def b_marker_distance : List MS := [
 .ite (.or [(.cmp .lt (.var 0) (.var 1)),(.cmp .gt (.var 0) (.var 2))]) [.ret (some (.int 0))] [],
 .ret (some (.ife (.var 3) (.bin .sub (.var 2) (.var 0)) (.bin .sub (.var 1) (.var 0))))]
noncomputable def b_need_visible : List MS := [
 .ite (.or [(.cmp .lt (.var 1) (.attr (.var 0) .begv)),(.cmp .gt (.var 2) (.attr (.var 0) .zv))]) [.stop] []]
noncomputable def b_markers_ahead : List MS := [
 .assign 2 (.lst []),
 .while (.and [(.cmp .gt (.var 1) (.int 0)),(.cmp .eq (.idx (.idx (.var 0) (.bin .sub (.var 1) (.int 1))) (.int 0)) (.str .marker))]) [.assign 1 (.bin .sub (.var 1) (.int 1)),.expr (.append (.var 2) (.idx (.var 0) (.var 1)))],
 .ret (some (.var 2))]
noncomputable def b_undo_insert : List MS := [
 .expr (.call .need_visible [(.var 0),(.idx (.var 1) (.int 1)),(.idx (.var 1) (.int 2))]),
 .expr (.meth (.var 0) .goto [(.idx (.var 1) (.int 1))]),
 .expr (.call .delete [(.var 0),(.idx (.var 1) (.int 1)),(.idx (.var 1) (.int 2))])]
noncomputable def b_undo_delete : List MS := [
 .expr (.call .need_visible [(.var 0),(.idx (.var 1) (.int 1)),(.idx (.var 1) (.int 1))]),
 .assign 3 (.lst []),
 .forList [4,5,6] false (.var 2) [.ite (.and [(.cmp .in_ (.attr (.var 5) .number) (.attr (.attr (.var 0) .markers) .rows)),(.cmp .eq (.attr (.var 5) .position) (.idx (.var 1) (.int 1)))]) [.expr (.append (.var 3) (.tup [(.var 5),(.var 6)]))] []],
 .expr (.meth (.var 0) .goto [(.idx (.var 1) (.int 1))]),
 .expr (.call .insert_piece [(.var 0),(.idx (.var 1) (.int 2))]),
 .ite (.not (.idx (.var 1) (.int 3))) [.expr (.meth (.var 0) .goto [(.idx (.var 1) (.int 1))])] [],
 .forList [5,6] false (.var 3) [.setAttr (.var 5) .position (.bin .sub (.attr (.var 5) .position) (.var 6))]]
noncomputable def b_undo_row : List MS := [
 .assign 3 (.idx (.var 1) (.bin .sub (.var 2) (.int 1))),
 .assign 2 (.bin .sub (.var 2) (.int 1)),
 .ite (.cmp .eq (.idx (.var 3) (.int 0)) (.str .insert)) [.expr (.call .undo_insert [(.var 0),(.var 3)])] [.ite (.cmp .eq (.idx (.var 3) (.int 0)) (.str .delete)) [.assign 4 (.call .markers_ahead [(.var 1),(.var 2)]),.expr (.call .undo_delete [(.var 0),(.var 3),(.var 4)]),.assign 2 (.bin .sub (.var 2) (.len (.var 4)))] [.ite (.cmp .eq (.idx (.var 3) (.int 0)) (.str .point)) [.expr (.meth (.var 0) .goto [(.idx (.var 3) (.int 1))])] [.ite (.cmp .eq (.idx (.var 3) (.int 0)) (.str .property)) [.expr (.call .need_visible [(.var 0),(.idx (.var 3) (.int 1)),(.idx (.var 3) (.int 2))]),.expr .stop] [.ite (.and [(.cmp .eq (.idx (.var 3) (.int 0)) (.str .unmodified)),(.cmp .eq (.idx (.var 3) (.int 1)) (.attr (.var 0) .saved_ticks))]) [.expr (.meth (.var 0) .set_modified [(.bool false)]),.ite (.cmp .isNot (.attr (.var 0) .undo) .none) [.expr (.meth (.attr (.attr (.var 0) .undo) .list) .renew_unmodified [(.idx (.var 3) (.int 1)),(.attr (.var 0) .saved_ticks)])] []] []]]]],
 .ret (some (.var 2))]
noncomputable def b_above_boundaries : List MS := [
 .while (.and [(.cmp .gt (.var 1) (.int 0)),(.cmp .eq (.idx (.var 0) (.bin .sub (.var 1) (.int 1))) .bnd)]) [.assign 1 (.bin .sub (.var 1) (.int 1))],
 .ret (some (.var 1))]
noncomputable def b_undo_group : List MS := [
 .assign 2 (.call .above_boundaries [(.var 1),(.var 2)]),
 .while (.and [(.cmp .gt (.var 2) (.int 0)),(.cmp .ne (.idx (.var 1) (.bin .sub (.var 2) (.int 1))) .bnd)]) [.assign 2 (.call .undo_row [(.var 0),(.var 1),(.var 2)])],
 .ret (some (.var 2))]
noncomputable def b_set_marker : List MS := [
 .ite (.and [(.cmp .isNot (.attr (.var 0) .buffer) .none),(.cmp .isNot (.attr (.var 0) .buffer) (.var 1))]) [.expr .stop] [],
 .setAttr (.var 0) .buffer (.var 1),
 .ite (.cmp .is_ (.var 1) .none) [.setAttr (.var 0) .position (.int 0)] [.expr (.meth (.attr (.var 1) .markers) .put [(.var 0),(.min (.max (.var 2) (.int 1)) (.bin .add (.meth (.var 1) .size []) (.int 1)))])]]
noncomputable def b_deck : List MS := [
 .assign 1 (.comp [101] true (.slice (.var 0) none (some (.int 20))) none (.abs (.var 101))),
 .ret (some (.lst [(.comp [101] true (.var 1) (some (.cmp .ge (.var 101) (.bin .pow (.int 10) (.int 18)))) (.var 101)),(.bin .add (.var 1) (.lst [(.bin .add (.int 417) (.len (.var 1)))])),(.int 0)]))]
noncomputable def b_draw : List MS := [
 .ite (.cmp .ne (.idx (.var 0) (.int 0)) (.lst [])) [.assign 2 (.idx (.idx (.var 0) (.int 0)) (.int 0)),.setIdx (.idx (.var 0) (.int 0)) (.int 0) (.bin .fdiv (.var 2) (.var 1)),.ite (.cmp .eq (.idx (.idx (.var 0) (.int 0)) (.int 0)) (.int 0)) [.expr (.pop0 (.idx (.var 0) (.int 0)))] [],.ret (some (.bin .mod (.var 2) (.var 1)))] [],
 .setIdx (.var 0) (.int 2) (.bin .add (.idx (.var 0) (.int 2)) (.int 1)),
 .assign 3 (.bin .mod (.bin .add (.idx (.idx (.var 0) (.int 1)) (.bin .mod (.idx (.var 0) (.int 2)) (.len (.idx (.var 0) (.int 1))))) (.bin .mul (.int 1640531527) (.idx (.var 0) (.int 2)))) (.int 4294966297)),
 .assign 3 (.bin .mod (.bin .add (.bin .mul (.var 3) (.var 3)) (.bin .mul (.int 122949823) (.idx (.var 0) (.int 2)))) (.int 4294966237)),
 .ret (some (.bin .mod (.bin .fdiv (.bin .mod (.bin .mul (.var 3) (.var 3)) (.int 4294966187)) (.int 1024)) (.var 1)))]
noncomputable def b_law_buffer : List MS := [
 .assign 2 (.new .buffer [(.int 1),(.str .a)]),
 .expr (.call .insert [(.var 2),(.var 0)]),
 .expr (.meth (.var 2) .goto [(.var 1)]),
 .expr (.meth (.var 2) .set_modified [(.bool false)]),
 .setAttr (.var 2) .undo (.new .recording []),
 .ret (some (.var 2))]
noncomputable def b_law_state : List MS := [
 .ret (some (.tup [(.meth (.var 0) .codes [(.int 1),(.bin .add (.meth (.var 0) .size []) (.int 1))]),(.comp [101] true (.var 1) none (.attr (.var 101) .position))]))]
noncomputable def b_law_command : List MS := [
 .assignN [3,4] [(.attr (.var 1) .point),(.meth (.var 1) .size [])],
 .assignN [5,6] [(.call .draw [(.var 0),(.int 3)]),(.bin .add (.int 1) (.call .draw [(.var 0),(.bin .add (.var 4) (.int 1))]))],
 .assign 7 (.bin .add (.var 6) (.call .draw [(.var 0),(.bin .sub (.bin .add (.var 4) (.int 2)) (.var 6))])),
 .assign 8 (.compRange 101 (.bin .add (.int 1) (.call .draw [(.var 0),(.int 3)])) (.bin .add (.var 2) (.var 101))),
 .ite (.or [(.cmp .eq (.var 5) (.int 0)),(.cmp .eq (.var 6) (.var 7))]) [.expr (.meth (.var 1) .goto [(.var 6)]),.expr (.call .insert [(.var 1),(.var 8)]),.ret (some (.var 6))] [],
 .ite (.cmp .eq (.var 5) (.int 1)) [.expr (.call .delete [(.var 1),(.var 6),(.var 7)])] [.expr (.call .replace [(.var 1),(.var 6),(.var 7),(.var 8)])],
 .ret (some (.var 3))]
noncomputable def b_gap_init : List MS := [
 .setAttr (.var 0) .room (.var 2),
 .setAttr (.var 0) .cells (.bin .add (.list (.var 1)) (.bin .mul (.lst [(.int 0)]) (.var 2))),
 .setAttr (.var 0) .gap_start (.len (.var 1)),
 .setAttr (.var 0) .gap_end (.bin .add (.len (.var 1)) (.var 2))]
noncomputable def b_gap_size : List MS := [
 .ret (some (.bin .add (.bin .sub (.len (.attr (.var 0) .cells)) (.attr (.var 0) .gap_end)) (.attr (.var 0) .gap_start)))]
noncomputable def b_gap_codes : List MS := [
 .assign 3 (.bin .sub (.attr (.var 0) .gap_end) (.attr (.var 0) .gap_start)),
 .ite (.cmp .le (.var 2) (.attr (.var 0) .gap_start)) [.ret (some (.slice (.attr (.var 0) .cells) (some (.var 1)) (some (.var 2))))] [],
 .ite (.cmp .ge (.var 1) (.attr (.var 0) .gap_start)) [.ret (some (.slice (.attr (.var 0) .cells) (some (.bin .add (.var 1) (.var 3))) (some (.bin .add (.var 2) (.var 3)))))] [],
 .ret (some (.bin .add (.slice (.attr (.var 0) .cells) (some (.var 1)) (some (.attr (.var 0) .gap_start))) (.slice (.attr (.var 0) .cells) (some (.attr (.var 0) .gap_end)) (some (.bin .add (.var 2) (.var 3))))))]
noncomputable def b_gap_move : List MS := [
 .ite (.cmp .lt (.var 1) (.attr (.var 0) .gap_start)) [.assign 2 (.slice (.attr (.var 0) .cells) (some (.var 1)) (some (.attr (.var 0) .gap_start))),.setSlice (.attr (.var 0) .cells) (.bin .sub (.attr (.var 0) .gap_end) (.len (.var 2))) (.attr (.var 0) .gap_end) (.var 2),.setAttr (.var 0) .gap_end (.bin .sub (.attr (.var 0) .gap_end) (.len (.var 2)))] [.assign 2 (.slice (.attr (.var 0) .cells) (some (.attr (.var 0) .gap_end)) (some (.bin .sub (.bin .add (.attr (.var 0) .gap_end) (.var 1)) (.attr (.var 0) .gap_start)))),.setSlice (.attr (.var 0) .cells) (.attr (.var 0) .gap_start) (.bin .add (.attr (.var 0) .gap_start) (.len (.var 2))) (.var 2),.setAttr (.var 0) .gap_end (.bin .add (.attr (.var 0) .gap_end) (.len (.var 2)))],
 .setAttr (.var 0) .gap_start (.var 1)]
noncomputable def b_gap_widen : List MS := [
 .assign 2 (.bin .sub (.var 1) (.bin .sub (.attr (.var 0) .gap_end) (.attr (.var 0) .gap_start))),
 .ite (.cmp .gt (.var 2) (.int 0)) [.setSlice (.attr (.var 0) .cells) (.attr (.var 0) .gap_end) (.attr (.var 0) .gap_end) (.bin .mul (.lst [(.int 0)]) (.bin .add (.var 2) (.attr (.var 0) .room))),.setAttr (.var 0) .gap_end (.bin .add (.bin .add (.attr (.var 0) .gap_end) (.var 2)) (.attr (.var 0) .room))] []]
noncomputable def b_gap_insert : List MS := [
 .expr (.meth (.var 0) .widen_gap [(.len (.var 2))]),
 .expr (.meth (.var 0) .move_gap [(.var 1)]),
 .setSlice (.attr (.var 0) .cells) (.var 1) (.bin .add (.var 1) (.len (.var 2))) (.var 2),
 .setAttr (.var 0) .gap_start (.bin .add (.var 1) (.len (.var 2)))]
noncomputable def b_gap_delete : List MS := [
 .assign 3 (.meth (.var 0) .codes [(.var 1),(.var 2)]),
 .ite (.cmp .lt (.var 2) (.attr (.var 0) .gap_start)) [.expr (.meth (.var 0) .move_gap [(.var 2)])] [],
 .ite (.cmp .gt (.var 1) (.attr (.var 0) .gap_start)) [.expr (.meth (.var 0) .move_gap [(.var 1)])] [],
 .setAttr (.var 0) .gap_end (.bin .sub (.bin .add (.attr (.var 0) .gap_end) (.var 2)) (.attr (.var 0) .gap_start)),
 .setAttr (.var 0) .gap_start (.var 1),
 .ret (some (.var 3))]
noncomputable def b_marker_init : List MS := [
 .setAttr (.var 0) .number (.var 1),
 .setAttr (.var 0) .advances (.var 2),
 .setAttr (.var 0) .buffer .none,
 .setAttr (.var 0) .position (.int 0)]
noncomputable def b_mk_init : List MS := [
 .setAttr (.var 0) .rows .dict0]
noncomputable def b_mk_numbers : List MS := [
 .ret (some (.sorted (.attr (.var 0) .rows)))]
noncomputable def b_mk_put : List MS := [
 .setIdx (.attr (.var 0) .rows) (.attr (.var 1) .number) (.var 1),
 .setAttr (.var 1) .position (.var 2)]
noncomputable def b_mk_within : List MS := [
 .assign 3 (.lst []),
 .forList [4] true (.meth (.var 0) .numbers []) [.ite (.chain (.var 1) .le (.attr (.idx (.attr (.var 0) .rows) (.var 4)) .position) .le (.var 2)) [.expr (.append (.var 3) (.idx (.attr (.var 0) .rows) (.var 4)))] []],
 .ret (some (.var 3))]
noncomputable def b_mk_inserted : List MS := [
 .forList [4] true (.meth (.var 0) .numbers []) [.assign 5 (.idx (.attr (.var 0) .rows) (.var 4)),.ite (.or [(.cmp .gt (.attr (.var 5) .position) (.var 1)),(.and [(.cmp .eq (.attr (.var 5) .position) (.var 1)),(.or [(.var 3),(.attr (.var 5) .advances)])])]) [.setAttr (.var 5) .position (.bin .sub (.bin .add (.attr (.var 5) .position) (.var 2)) (.var 1))] []]]
noncomputable def b_mk_deleted : List MS := [
 .forList [3] true (.meth (.var 0) .numbers []) [.assign 4 (.idx (.attr (.var 0) .rows) (.var 3)),.ite (.cmp .gt (.attr (.var 4) .position) (.var 2)) [.setAttr (.var 4) .position (.bin .sub (.attr (.var 4) .position) (.bin .sub (.var 2) (.var 1)))] [.ite (.cmp .gt (.attr (.var 4) .position) (.var 1)) [.setAttr (.var 4) .position (.var 1)] []]]]
noncomputable def b_mk_replaced : List MS := [
 .forList [4] true (.meth (.var 0) .numbers []) [.assign 5 (.idx (.attr (.var 0) .rows) (.var 4)),.ite (.cmp .ge (.attr (.var 5) .position) (.var 2)) [.setAttr (.var 5) .position (.bin .sub (.bin .add (.attr (.var 5) .position) (.var 3)) (.bin .sub (.var 2) (.var 1)))] [.ite (.cmp .gt (.attr (.var 5) .position) (.var 1)) [.setAttr (.var 5) .position (.var 1)] []]]]
noncomputable def b_buf_init : List MS := [
 .setAttr (.var 0) .number (.var 1),
 .setAttr (.var 0) .name (.var 2),
 .setAttr (.var 0) .text (.new .gap [(.lst []),(.var 3)]),
 .setAttr (.var 0) .markers (.new .markers []),
 .setAttr (.var 0) .point (.int 1),
 .setAttr (.var 0) .begv (.int 1),
 .setAttr (.var 0) .zv (.int 1),
 .setAttr (.var 0) .mark .none,
 .setAttr (.var 0) .is_live (.bool true),
 .setAttr (.var 0) .is_read_only (.bool false),
 .setAttr (.var 0) .ticks (.int 1),
 .setAttr (.var 0) .codes_ticks (.int 1),
 .setAttr (.var 0) .saved_ticks (.int 1),
 .setAttr (.var 0) .listeners (.lst []),
 .setAttr (.var 0) .undo .none,
 .setAttr (.var 0) .props .none,
 .setAttr (.var 0) .overlays .none,
 .setAttr (.var 0) .locals .none,
 .setAttr (.var 0) .syn .none,
 .setAttr (.var 0) .file .none]
noncomputable def b_buf_size : List MS := [
 .ret (some (.meth (.attr (.var 0) .text) .size []))]
noncomputable def b_buf_codes : List MS := [
 .ret (some (.meth (.attr (.var 0) .text) .codes [(.bin .sub (.var 1) (.int 1)),(.bin .sub (.var 2) (.int 1))]))]
noncomputable def b_buf_goto : List MS := [
 .setAttr (.var 0) .point (.min (.max (.var 1) (.attr (.var 0) .begv)) (.attr (.var 0) .zv)),
 .ret (some (.attr (.var 0) .point))]
noncomputable def b_buf_is_modified : List MS := [
 .ret (some (.cmp .lt (.attr (.var 0) .saved_ticks) (.attr (.var 0) .ticks)))]
noncomputable def b_buf_set_modified : List MS := [
 .ite (.not (.var 1)) [.setAttr (.var 0) .saved_ticks (.attr (.var 0) .ticks)] [.ite (.not (.meth (.var 0) .is_modified [])) [.setAttr (.var 0) .ticks (.bin .add (.attr (.var 0) .ticks) (.int 1))] []]]
noncomputable def b_buf_touch : List MS := [
 .setAttr (.var 0) .ticks (.bin .add (.attr (.var 0) .ticks) (.int 1)),
 .ite (.var 1) [.setAttr (.var 0) .codes_ticks (.attr (.var 0) .ticks)] []]
noncomputable def b_piece_init : List MS := [
 .setAttr (.var 0) .codes (.var 1),
 .setAttr (.var 0) .runs (.var 2)]
noncomputable def b_rec_init : List MS := [
 .setAttr (.var 0) .list (.new .undolist [])]
noncomputable def b_rec_comes : List MS := [
 .expr (.meth (.attr (.var 0) .list) .note_insert [(.var 2),(.var 3),(.attr (.var 1) .point),(.meth (.var 1) .is_modified []),(.attr (.var 1) .saved_ticks)])]
noncomputable def b_rec_goes : List MS := [
 .ite (.not (.attr (.attr (.var 0) .list) .is_on)) [.ret none] [],
 .assign 4 (.ife (.cmp .is_ (.attr (.var 1) .props) .none) (.lst []) .stop),
 .assign 5 (.comp [101,102,103] false (.var 4) (some (.cmp .gt (.len (.var 103)) (.int 0))) (.tup [(.bin .add (.bin .sub (.var 101) (.var 2)) (.int 1)),(.bin .add (.bin .sub (.var 102) (.var 2)) (.int 1)),(.var 103)])),
 .assign 6 (.lst []),
 .forList [7] true (.meth (.attr (.var 1) .markers) .within [(.var 2),(.var 3)]) [.expr (.append (.var 6) (.tup [(.var 7),(.call .marker_distance [(.attr (.var 7) .position),(.var 2),(.var 3),(.attr (.var 7) .advances)])]))],
 .assign 8 (.new .piece [(.meth (.var 1) .codes [(.var 2),(.var 3)]),(.var 5)]),
 .expr (.meth (.attr (.var 0) .list) .note_delete [(.var 2),(.var 8),(.attr (.var 1) .point),(.var 6),(.meth (.var 1) .is_modified []),(.attr (.var 1) .saved_ticks)])]
noncomputable def b_ul_init : List MS := [
 .setAttr (.var 0) .rows (.lst []),
 .setAttr (.var 0) .dropped (.int 0),
 .setAttr (.var 0) .is_on (.bool true),
 .setAttr (.var 0) .point_before .none,
 .setAttr (.var 0) .noted_tick .none]
noncomputable def b_ul_at : List MS := [
 .ret (some (.or [(.cmp .eq (.len (.attr (.var 0) .rows)) (.int 0)),(.cmp .eq (.idx (.attr (.var 0) .rows) (.neg (.int 1))) .bnd)]))]
noncomputable def b_ul_boundary : List MS := [
 .ite (.not (.meth (.var 0) .is_at_boundary [])) [.expr (.append (.attr (.var 0) .rows) .bnd)] []]
noncomputable def b_ul_begin : List MS := [
 .setAttr (.var 0) .point_before (.var 1)]
noncomputable def b_ul_state : List MS := [
 .ite (.and [(.not (.var 1)),(.cmp .ne (.var 2) (.attr (.var 0) .noted_tick))]) [.expr (.append (.attr (.var 0) .rows) (.tup [(.str .unmodified),(.var 2)])),.setAttr (.var 0) .noted_tick (.var 2)] []]
noncomputable def b_ul_insert : List MS := [
 .ite (.or [(.not (.attr (.var 0) .is_on)),(.cmp .eq (.var 2) (.int 0))]) [.ret none] [],
 .expr (.meth (.var 0) .note_state [(.var 4),(.var 5)]),
 .assign 6 (.ife (.cmp .gt (.len (.attr (.var 0) .rows)) (.int 0)) (.idx (.attr (.var 0) .rows) (.neg (.int 1))) .bnd),
 .ite (.and [(.cmp .eq (.idx (.var 6) (.int 0)) (.str .insert)),(.cmp .eq (.idx (.var 6) (.int 2)) (.var 1))]) [.setIdx (.attr (.var 0) .rows) (.neg (.int 1)) (.tup [(.str .insert),(.idx (.var 6) (.int 1)),(.bin .add (.var 1) (.var 2))])] [.expr (.append (.attr (.var 0) .rows) (.tup [(.str .insert),(.var 1),(.bin .add (.var 1) (.var 2))]))]]
noncomputable def b_ul_delete : List MS := [
 .ite (.or [(.not (.attr (.var 0) .is_on)),(.cmp .eq (.len (.attr (.var 2) .codes)) (.int 0))]) [.ret none] [],
 .assign 7 (.meth (.var 0) .is_at_boundary []),
 .expr (.meth (.var 0) .note_state [(.var 5),(.var 6)]),
 .ite (.and [(.var 7),(.cmp .isNot (.attr (.var 0) .point_before) .none),(.cmp .ne (.attr (.var 0) .point_before) (.var 1))]) [.expr (.append (.attr (.var 0) .rows) (.tup [(.str .point),(.attr (.var 0) .point_before)]))] [],
 .forList [8,9] false (.var 4) [.ite (.cmp .ne (.var 9) (.int 0)) [.expr (.append (.attr (.var 0) .rows) (.tup [(.str .marker),(.var 8),(.var 9)]))] []],
 .expr (.append (.attr (.var 0) .rows) (.tup [(.str .delete),(.var 1),(.var 2),(.cmp .eq (.var 3) (.bin .add (.var 1) (.len (.attr (.var 2) .codes))))]))]
noncomputable def b_ul_renew : List MS := [
 .assign 3 (.tup [(.str .unmodified),(.var 1)]),
 .setAttr (.var 0) .rows (.comp [101] true (.attr (.var 0) .rows) none (.ife (.cmp .eq (.var 101) (.var 3)) (.tup [(.str .unmodified),(.var 2)]) (.var 101)))]
noncomputable def b_law : List MS := [
 .assign 1 (.call .deck [(.var 0)]),
 .assign 2 (.call .draw [(.var 1),(.int 9)]),
 .assign 3 (.call .law_buffer [(.listRange (.var 2)),(.bin .add (.int 1) (.call .draw [(.var 1),(.bin .add (.var 2) (.int 1))]))]),
 .assign 4 (.lst [(.new .marker [(.int 1),(.cmp .eq (.call .draw [(.var 1),(.int 2)]) (.int 0))]),(.new .marker [(.int 2),(.bool true)])]),
 .forList [5] true (.var 4) [.expr (.call .set_marker [(.var 5),(.var 3),(.bin .add (.int 1) (.call .draw [(.var 1),(.bin .add (.var 2) (.int 1))]))])],
 .assignN [6,7,8] [(.lst [(.call .law_state [(.var 3),(.var 4)])]),(.lst []),(.attr (.attr (.var 3) .undo) .list)],
 .forRange 9 (.bin .add (.int 2) (.call .draw [(.var 1),(.int 4)])) [.expr (.meth (.var 8) .boundary []),.expr (.meth (.var 8) .begin_command [(.attr (.var 3) .point)]),.expr (.append (.var 7) (.call .law_command [(.var 1),(.var 3),(.bin .add (.bin .mul (.int 20) (.var 9)) (.int 20))])),.expr (.append (.var 6) (.call .law_state [(.var 3),(.var 4)])),.ite (.cmp .eq (.call .draw [(.var 1),(.int 3)]) (.int 0)) [.expr (.meth (.var 3) .goto [(.bin .add (.int 1) (.call .draw [(.var 1),(.bin .add (.meth (.var 3) .size []) (.int 1))]))])] []],
 .expr (.meth (.var 8) .boundary []),
 .forRange 10 (.int 2) [.assignN [11,12] [(.list (.attr (.var 8) .rows)),(.ife (.cmp .eq (.var 10) (.int 0)) (.slice (.rev (.var 6)) (some (.int 1)) none) (.slice (.var 6) (some (.int 1)) none))],.assignN [13,14] [(.len (.var 11)),(.list (.var 11))],.forRange 9 (.len (.var 12)) [.assign 13 (.call .undo_group [(.var 3),(.var 11),(.var 13)]),.ite (.or [(.cmp .ne (.call .law_state [(.var 3),(.var 4)]) (.idx (.var 12) (.var 9))),(.cmp .ne (.var 11) (.var 14))]) [.ret (some (.bool false))] [],.ite (.and [(.cmp .eq (.var 10) (.int 0)),(.cmp .ne (.attr (.var 3) .point) (.idx (.var 7) (.bin .sub (.bin .sub (.len (.var 7)) (.int 1)) (.var 9))))]) [.ret (some (.bool false))] [],.expr (.meth (.var 8) .boundary [])],.ite (.or [(.and [(.cmp .eq (.var 10) (.int 0)),(.meth (.var 3) .is_modified [])]),(.and [(.cmp .eq (.var 10) (.int 1)),(.not (.meth (.var 3) .is_modified []))])]) [.ret (some (.bool false))] []],
 .ret (some (.bool true))]
noncomputable def bodyOf : Fn → List MS
 | .need_writable => b_need_writable
 | .reached => b_reached
 | .tell_ahead => b_tell_ahead
 | .tell_behind => b_tell_behind
 | .text_out => b_text_out
 | .text_in => b_text_in
 | .hung_out => b_hung_out
 | .hung_in => b_hung_in
 | .put_in => b_put_in
 | .insert => b_insert
 | .delete => b_delete
 | .replace => b_replace
 | .insert_piece => b_insert_piece
 | .marker_distance => b_marker_distance
 | .need_visible => b_need_visible
 | .markers_ahead => b_markers_ahead
 | .undo_insert => b_undo_insert
 | .undo_delete => b_undo_delete
 | .undo_row => b_undo_row
 | .above_boundaries => b_above_boundaries
 | .undo_group => b_undo_group
 | .set_marker => b_set_marker
 | .deck => b_deck
 | .draw => b_draw
 | .law_buffer => b_law_buffer
 | .law_state => b_law_state
 | .law_command => b_law_command
 | .law => b_law
 | .gap_init => b_gap_init
 | .gap_size => b_gap_size
 | .gap_codes => b_gap_codes
 | .gap_move => b_gap_move
 | .gap_widen => b_gap_widen
 | .gap_insert => b_gap_insert
 | .gap_delete => b_gap_delete
 | .marker_init => b_marker_init
 | .mk_init => b_mk_init
 | .mk_numbers => b_mk_numbers
 | .mk_put => b_mk_put
 | .mk_within => b_mk_within
 | .mk_inserted => b_mk_inserted
 | .mk_deleted => b_mk_deleted
 | .mk_replaced => b_mk_replaced
 | .buf_init => b_buf_init
 | .buf_size => b_buf_size
 | .buf_codes => b_buf_codes
 | .buf_goto => b_buf_goto
 | .buf_is_modified => b_buf_is_modified
 | .buf_set_modified => b_buf_set_modified
 | .buf_touch => b_buf_touch
 | .piece_init => b_piece_init
 | .rec_init => b_rec_init
 | .rec_comes => b_rec_comes
 | .rec_goes => b_rec_goes
 | .ul_init => b_ul_init
 | .ul_at => b_ul_at
 | .ul_boundary => b_ul_boundary
 | .ul_begin => b_ul_begin
 | .ul_state => b_ul_state
 | .ul_insert => b_ul_insert
 | .ul_delete => b_ul_delete
 | .ul_renew => b_ul_renew
noncomputable def arity : Fn → Nat
 | .need_writable => 1
 | .reached => 3
 | .tell_ahead => 3
 | .tell_behind => 4
 | .text_out => 3
 | .text_in => 3
 | .hung_out => 3
 | .hung_in => 4
 | .put_in => 5
 | .insert => 3
 | .delete => 3
 | .replace => 4
 | .insert_piece => 2
 | .marker_distance => 4
 | .need_visible => 3
 | .markers_ahead => 2
 | .undo_insert => 2
 | .undo_delete => 3
 | .undo_row => 3
 | .above_boundaries => 2
 | .undo_group => 3
 | .set_marker => 3
 | .deck => 1
 | .draw => 2
 | .law_buffer => 2
 | .law_state => 2
 | .law_command => 3
 | .law => 1
 | .gap_init => 3
 | .gap_size => 1
 | .gap_codes => 3
 | .gap_move => 2
 | .gap_widen => 2
 | .gap_insert => 3
 | .gap_delete => 3
 | .marker_init => 3
 | .mk_init => 1
 | .mk_numbers => 1
 | .mk_put => 3
 | .mk_within => 3
 | .mk_inserted => 4
 | .mk_deleted => 3
 | .mk_replaced => 4
 | .buf_init => 4
 | .buf_size => 1
 | .buf_codes => 3
 | .buf_goto => 2
 | .buf_is_modified => 1
 | .buf_set_modified => 2
 | .buf_touch => 2
 | .piece_init => 3
 | .rec_init => 1
 | .rec_comes => 4
 | .rec_goes => 4
 | .ul_init => 1
 | .ul_at => 1
 | .ul_boundary => 1
 | .ul_begin => 2
 | .ul_state => 3
 | .ul_insert => 6
 | .ul_delete => 7
 | .ul_renew => 3
noncomputable def dflOf : Fn → List AV
 | .insert => [.bool false]
 | .buf_init => [.int 8]
 | _ => []

end P_C0

section P_C1
open PySem

noncomputable section
noncomputable def argL (as : List AV) : Locals := λ i => as[i]?
@[simp] theorem argL_0 (a0 : AV) (as : List AV) : argL (a0 :: as) 0 = some a0 := rfl
@[simp] theorem argL_1 (a0 a1 : AV) (as : List AV) : argL (a0 :: a1 :: as) 1 = some a1 := rfl
@[simp] theorem argL_2 (a0 a1 a2 : AV) (as : List AV) : argL (a0 :: a1 :: a2 :: as) 2 = some a2 := rfl
@[simp] theorem argL_3 (a0 a1 a2 a3 : AV) (as : List AV) : argL (a0 :: a1 :: a2 :: a3 :: as) 3 = some a3 := rfl
@[simp] theorem argL_4 (a0 a1 a2 a3 a4 : AV) (as : List AV) : argL (a0 :: a1 :: a2 :: a3 :: a4 :: as) 4 = some a4 := rfl
@[simp] theorem argL_5 (a0 a1 a2 a3 a4 a5 : AV) (as : List AV) : argL (a0 :: a1 :: a2 :: a3 :: a4 :: a5 :: as) 5 = some a5 := rfl
@[simp] theorem argL_6 (a0 a1 a2 a3 a4 a5 a6 : AV) (as : List AV) : argL (a0 :: a1 :: a2 :: a3 :: a4 :: a5 :: a6 :: as) 6 = some a6 := rfl
@[simp] theorem argL_7 (a0 a1 a2 a3 a4 a5 a6 a7 : AV) (as : List AV) : argL (a0 :: a1 :: a2 :: a3 :: a4 :: a5 :: a6 :: a7 :: as) 7 = some a7 := rfl
@[simp] theorem upd_at (ρ : Locals) (i : Nat) (v : AV) (j : Nat) : upd ρ i v j = if j = i then some v else ρ j := rfl
@[simp] theorem upds_nil (ρ : Locals) (vs : List AV) : upds ρ [] vs = ρ := rfl
@[simp] theorem upds_cons (ρ : Locals) (x : Nat) (xs : List Nat) (v : AV) (vs : List AV) : upds ρ (x :: xs) (v :: vs) = upds (upd ρ x v) xs vs := rfl
@[simp] theorem bindT_one (x : Nat) (ρ : Locals) (v : AV) : bindT [x] true ρ v = some (upd ρ x v) := rfl
theorem bindT_more (xs : List Nat) (vs : List AV) (ρ : Locals) (h : xs.length = vs.length) : bindT xs false ρ (.tup vs) = some (upds ρ xs vs) := if_pos h
theorem set_eq (H : AHeap) (a b : Addr) (o : AO) : (H.set a o) b = if b = a then some o else H b := rfl
noncomputable def opv : Bop → AV → AV → Option AV
 | .add,.int x,.int y => some (.int (x + y))
 | .sub,.int x,.int y => some (.int (x - y))
 | _,_,_ => none
mutual
noncomputable def ev (H : AHeap) (ρ : Locals) : ME → Option AV
 | .none => some .none
 | .bool b => some (.bool b)
 | .int i => some (.int i)
 | .str s => some (.str s)
 | .var x => ρ x
 | .bnd => some (.tup [.str .boundary])
 | .attr e a => (match ev H ρ e with
   | some (.ref x) => (match H x with | some (.inst C _ _ F) => if isField C a = true then F a else none | _ => none)
   | _ => none)
 | .len e => (match ev H ρ e with
   | some (.ref x) => (match H x with | some (.list xs) => if xs.length ≤ lim then some (.int xs.length) else none | _ => none)
   | _ => none)
 | .min a b => (match ev H ρ a,ev H ρ b with | some (.int x),some (.int y) => some (.int (min x y)) | _,_ => none)
 | .max a b => (match ev H ρ a,ev H ρ b with | some (.int x),some (.int y) => some (.int (max x y)) | _,_ => none)
 | .neg e => (match ev H ρ e with | some (.int x) => some (.int (-x)) | _ => none)
 | .bin op a b => (match ev H ρ a,ev H ρ b with | some u,some v => opv op u v | _,_ => none)
 | .cmp op a b => (match ev H ρ a,ev H ρ b with | some u,some v => (cmpv H op u v).map .bool | _,_ => none)
 | .idx a b => (match ev H ρ a,ev H ρ b with | some u,some v => idxv H u v | _,_ => none)
 | .tup es => (evs H ρ es).map .tup
 | .or es => (evB H ρ false es).map .bool
 | .and es => (evB H ρ true es).map .bool
 | _ => none
noncomputable def evs (H : AHeap) (ρ : Locals) : List ME → Option (List AV)
 | [] => some []
 | e :: es => (match ev H ρ e,evs H ρ es with | some v,some vs => some (v :: vs) | _,_ => none)
noncomputable def evB (H : AHeap) (ρ : Locals) (isAnd : Bool) : List ME → Option Bool
 | [] => none
 | e :: es => (match ev H ρ e with
   | some (.bool b) => if es.isEmpty || b != isAnd then some b else evB H ρ isAnd es
   | _ => none)
end
mutual
noncomputable def evT (H : AHeap) (ρ : Locals) : ME → Option Bool
 | .not e => (evT H ρ e).map (!·)
 | .and es => evA H ρ true es
 | .or es => evA H ρ false es
 | .chain a p b q c => (match ev H ρ a,ev H ρ b with
   | some u,some v => (match cmpv H p u v with
     | some true => (match ev H ρ c with | some x => cmpv H q v x | none => none)
     | r => r)
   | _,_ => none)
 | .ife .. => none
 | e => (match ev H ρ e with | some (.bool b) => some b | _ => none)
noncomputable def evA (H : AHeap) (ρ : Locals) (isAnd : Bool) : List ME → Option Bool
 | [] => some isAnd
 | e :: es => (match evT H ρ e with
   | some b => if b = isAnd then evA H ρ isAnd es else some b
   | none => none)
end
end
section
variable {call : Fn → List AV → AHeap → (AV → AHeap → Prop) → Prop} {H : AHeap} {ρ : Locals}
theorem opv_ok {op : Bop} {a b v : AV} (h : opv op a b = some v) {Q : AV → AHeap → Prop} (q : Q v H) : binv H op a b Q := by
 cases op <;> cases a <;> first | exact nn h | exact ft h | (cases h; done) | (cases b <;> first | exact nn h | exact ft h | (cases h; done) | (cases h; exact q))
mutual
theorem ev_ok : ∀ (e : ME) {v : AV},ev H ρ e = some v → ∀ {Q : AV → AHeap → Prop},Q v H → mE call e ρ H Q
 | .none,v,h,Q,q => by cases h; exact q
 | .bool b,v,h,Q,q => by cases h; exact q
 | .int i,v,h,Q,q => by cases h; exact q
 | .str s,v,h,Q,q => by cases h; exact q
 | .var x,v,h,Q,q => by
   have h : ρ x = some v := h
   refine (?_ : (match ρ x with | some v => Q v H | none => False))
   rw [h]; exact q
 | .bnd,v,h,Q,q => by cases h; exact q
 | .attr e a,v,h,Q,q => by
   have h : (match ev H ρ e with
     | some (.ref x) => (match H x with | some (.inst C _ _ F) => if isField C a = true then F a else none | _ => none)
     | _ => none) = some v := h
   split at h
   · rename_i x he
     split at h
     · rename_i C k d F hx
       split at h
       · rename_i hf
         refine ev_ok e he ?_
         refine (?_ : (match H x with | some (.inst C _ _ F) => isField C a = true ∧ (match F a with | some u => Q u H | none => False) | _ => False))
         rw [hx]
         refine ⟨hf, ?_⟩
         rw [h]; exact q
       · exact nn h
     · exact nn h
   · exact nn h
 | .len e,v,h,Q,q => by
   have h : (match ev H ρ e with
     | some (.ref x) => (match H x with | some (.list xs) => if xs.length ≤ lim then some (.int xs.length) else none | _ => none)
     | _ => none) = some v := h
   split at h
   · rename_i x he
     split at h
     · rename_i xs hx
       split at h
       · rename_i hl
         cases h
         refine ev_ok e he ?_
         refine (?_ : (match H x with | some (.list xs) => xs.length ≤ lim ∧ Q (.int xs.length) H | _ => False))
         rw [hx]; exact ⟨hl,q⟩
       · exact nn h
     · exact nn h
   · exact nn h
 | .min a b,v,h,Q,q => by
   have h : (match ev H ρ a,ev H ρ b with | some (.int x),some (.int y) => some (AV.int (min x y)) | _,_ => none) = some v := h
   split at h
   · rename_i x y ha hb; cases h; exact ev_ok a ha (ev_ok b hb q)
   · exact nn h
 | .max a b,v,h,Q,q => by
   have h : (match ev H ρ a,ev H ρ b with | some (.int x),some (.int y) => some (AV.int (max x y)) | _,_ => none) = some v := h
   split at h
   · rename_i x y ha hb; cases h; exact ev_ok a ha (ev_ok b hb q)
   · exact nn h
 | .neg e,v,h,Q,q => by
   have h : (match ev H ρ e with | some (.int x) => some (AV.int (-x)) | _ => none) = some v := h
   split at h
   · rename_i x ha; cases h; exact ev_ok e ha q
   · exact nn h
 | .bin op a b,v,h,Q,q => by
   have h : (match ev H ρ a,ev H ρ b with | some u,some v => opv op u v | _,_ => none) = some v := h
   split at h
   · rename_i x y ha hb; exact ev_ok a ha (ev_ok b hb (opv_ok h q))
   · exact nn h
 | .cmp op a b,v,h,Q,q => by
   have h : (match ev H ρ a,ev H ρ b with | some u,some v => (cmpv H op u v).map AV.bool | _,_ => none) = some v := h
   split at h
   · rename_i x y ha hb
     obtain ⟨r,hr,rfl⟩ := Option.map_eq_some_iff.mp h
     refine ev_ok a ha (ev_ok b hb ?_)
     refine (?_ : (match cmpv H op x y with | some r => Q (.bool r) H | none => False))
     rw [hr]; exact q
   · exact nn h
 | .idx a b,v,h,Q,q => by
   have h : (match ev H ρ a,ev H ρ b with | some u,some v => idxv H u v | _,_ => none) = some v := h
   split at h
   · rename_i x y ha hb
     refine ev_ok a ha (ev_ok b hb ?_)
     refine (?_ : (match idxv H x y with | some r => Q r H | none => False))
     rw [h]; exact q
   · exact nn h
 | .tup es,v,h,Q,q => by
   obtain ⟨vs,hv,rfl⟩ := Option.map_eq_some_iff.mp (show (evs H ρ es).map AV.tup = some v from h)
   exact evs_ok es hv (Q := λ vs H' => Q (.tup vs) H') q
 | .or es,v,h,Q,q => by
   obtain ⟨b,hb,rfl⟩ := Option.map_eq_some_iff.mp (show (evB H ρ false es).map AV.bool = some v from h)
   exact evB_ok false es hb q
 | .and es,v,h,Q,q => by
   obtain ⟨b,hb,rfl⟩ := Option.map_eq_some_iff.mp (show (evB H ρ true es).map AV.bool = some v from h)
   exact evB_ok true es hb q
 | .call ..,v,h,Q,q => by exact nn h
 | .meth ..,v,h,Q,q => by exact nn h
 | .new ..,v,h,Q,q => by exact nn h
 | .list ..,v,h,Q,q => by exact nn h
 | .listRange ..,v,h,Q,q => by exact nn h
 | .sorted ..,v,h,Q,q => by exact nn h
 | .abs ..,v,h,Q,q => by exact nn h
 | .append ..,v,h,Q,q => by exact nn h
 | .pop0 ..,v,h,Q,q => by exact nn h
 | .chain ..,v,h,Q,q => by exact nn h
 | .not ..,v,h,Q,q => by exact nn h
 | .ife ..,v,h,Q,q => by exact nn h
 | .slice ..,v,h,Q,q => by exact nn h
 | .rev ..,v,h,Q,q => by exact nn h
 | .lst ..,v,h,Q,q => by exact nn h
 | .dict0,v,h,Q,q => by exact nn h
 | .comp ..,v,h,Q,q => by exact nn h
 | .compRange ..,v,h,Q,q => by exact nn h
 | .stop,v,h,Q,q => by exact nn h
theorem evs_ok : ∀ (es : List ME) {vs : List AV},evs H ρ es = some vs → ∀ {Q : List AV → AHeap → Prop},Q vs H → mEs call es ρ H Q
 | [],vs,h,Q,q => by cases h; exact q
 | e :: es,vs,h,Q,q => by
   have h : (match ev H ρ e,evs H ρ es with | some v,some vs => some (v :: vs) | _,_ => none) = some vs := h
   split at h
   · rename_i v vs' he hes
     cases h
     exact ev_ok e he (evs_ok es hes (Q := λ vs H' => Q (v :: vs) H') q)
   · exact nn h
theorem evB_ok (isAnd : Bool) : ∀ (es : List ME) {b : Bool},evB H ρ isAnd es = some b → ∀ {Q : AV → AHeap → Prop},Q (.bool b) H → mBool call isAnd es ρ H Q
 | [],b,h,Q,q => by exact nn h
 | e :: es,b,h,Q,q => by
   have h : (match ev H ρ e with
     | some (.bool b) => if (es.isEmpty || b != isAnd) = true then some b else evB H ρ isAnd es
     | _ => none) = some b := h
   split at h
   · rename_i c he
     refine ev_ok e he ?_
     refine (?_ : if (es.isEmpty || c != isAnd) = true then Q (.bool c) H else mBool call isAnd es ρ H Q)
     split at h
     · rename_i z; rw [if_pos z]; cases h; exact q
     · rename_i z; rw [if_neg z]; exact evB_ok isAnd es h q
   · exact nn h
end
theorem evT_of {e : ME} (hm : ∀ w (Q : Bool → AHeap → Prop),mT call e w ρ H Q = w λ v H' => match v with | .bool b => Q b H' | _ => False) {b : Bool} (h : (match ev H ρ e with | some (.bool b) => some b | _ => none) = some b) {Q : Bool → AHeap → Prop} (q : Q b H) : mT call e (mE call e ρ H) ρ H Q := by
 split at h
 · rename_i c he
   cases h
   rw [hm]
   exact ev_ok e he q
 · exact nn h
mutual
theorem evT_ok : ∀ (e : ME) {b : Bool},evT H ρ e = some b → ∀ {Q : Bool → AHeap → Prop},Q b H → mT call e (mE call e ρ H) ρ H Q
 | .not e,b,h,Q,q => by
   obtain ⟨c,hc,rfl⟩ := Option.map_eq_some_iff.mp (show (evT H ρ e).map (!·) = some b from h)
   exact evT_ok e hc (Q := λ b H' => Q (!b) H') q
 | .and es,b,h,Q,q => evA_ok true es h q
 | .or es,b,h,Q,q => evA_ok false es h q
 | .chain a p c r d,b,h,Q,q => by
   have h : (match ev H ρ a,ev H ρ c with
     | some u,some v => (match cmpv H p u v with
       | some true => (match ev H ρ d with | some x => cmpv H r v x | none => none)
       | r => r)
     | _,_ => none) = some b := h
   split at h
   · rename_i u v ha hc
     refine ev_ok a ha (ev_ok c hc ?_)
     refine (?_ : (match cmpv H p u v with
       | some true => mE call d ρ H λ x H₃ => (match cmpv H₃ r v x with | some r => Q r H₃ | none => False)
       | some false => Q false H
       | none => False))
     cases z : cmpv H p u v with
     | none => rw [z] at h; exact nn h
     | some t =>
       rw [z] at h
       cases t
       · cases h; exact q
       · simp only [] at h ⊢
         split at h
         · rename_i x hd
           refine ev_ok d hd ?_
           simp only [h]; exact q
         · exact nn h
   · exact nn h
 | .ife ..,b,h,Q,q => by exact nn h
 | .none,b,h,Q,q => by refine evT_of (λ _ _ => rfl) ?_ q; exact h
 | .bool _,b,h,Q,q => by refine evT_of (λ _ _ => rfl) ?_ q; exact h
 | .int _,b,h,Q,q => by refine evT_of (λ _ _ => rfl) ?_ q; exact h
 | .str _,b,h,Q,q => by refine evT_of (λ _ _ => rfl) ?_ q; exact h
 | .var _,b,h,Q,q => by refine evT_of (λ _ _ => rfl) ?_ q; exact h
 | .bnd,b,h,Q,q => by refine evT_of (λ _ _ => rfl) ?_ q; exact h
 | .attr ..,b,h,Q,q => by refine evT_of (λ _ _ => rfl) ?_ q; exact h
 | .call ..,b,h,Q,q => by refine evT_of (λ _ _ => rfl) ?_ q; exact h
 | .meth ..,b,h,Q,q => by refine evT_of (λ _ _ => rfl) ?_ q; exact h
 | .new ..,b,h,Q,q => by refine evT_of (λ _ _ => rfl) ?_ q; exact h
 | .len ..,b,h,Q,q => by refine evT_of (λ _ _ => rfl) ?_ q; exact h
 | .list ..,b,h,Q,q => by refine evT_of (λ _ _ => rfl) ?_ q; exact h
 | .listRange ..,b,h,Q,q => by refine evT_of (λ _ _ => rfl) ?_ q; exact h
 | .sorted ..,b,h,Q,q => by refine evT_of (λ _ _ => rfl) ?_ q; exact h
 | .abs ..,b,h,Q,q => by refine evT_of (λ _ _ => rfl) ?_ q; exact h
 | .min ..,b,h,Q,q => by refine evT_of (λ _ _ => rfl) ?_ q; exact h
 | .max ..,b,h,Q,q => by refine evT_of (λ _ _ => rfl) ?_ q; exact h
 | .append ..,b,h,Q,q => by refine evT_of (λ _ _ => rfl) ?_ q; exact h
 | .pop0 ..,b,h,Q,q => by refine evT_of (λ _ _ => rfl) ?_ q; exact h
 | .bin ..,b,h,Q,q => by refine evT_of (λ _ _ => rfl) ?_ q; exact h
 | .neg ..,b,h,Q,q => by refine evT_of (λ _ _ => rfl) ?_ q; exact h
 | .cmp ..,b,h,Q,q => by refine evT_of (λ _ _ => rfl) ?_ q; exact h
 | .idx ..,b,h,Q,q => by refine evT_of (λ _ _ => rfl) ?_ q; exact h
 | .slice ..,b,h,Q,q => by refine evT_of (λ _ _ => rfl) ?_ q; exact h
 | .rev ..,b,h,Q,q => by refine evT_of (λ _ _ => rfl) ?_ q; exact h
 | .lst ..,b,h,Q,q => by refine evT_of (λ _ _ => rfl) ?_ q; exact h
 | .tup ..,b,h,Q,q => by refine evT_of (λ _ _ => rfl) ?_ q; exact h
 | .dict0,b,h,Q,q => by refine evT_of (λ _ _ => rfl) ?_ q; exact h
 | .comp ..,b,h,Q,q => by refine evT_of (λ _ _ => rfl) ?_ q; exact h
 | .compRange ..,b,h,Q,q => by refine evT_of (λ _ _ => rfl) ?_ q; exact h
 | .stop,b,h,Q,q => by refine evT_of (λ _ _ => rfl) ?_ q; exact h
theorem evA_ok (isAnd : Bool) : ∀ (es : List ME) {b : Bool},evA H ρ isAnd es = some b → ∀ {Q : Bool → AHeap → Prop},Q b H → mAll call isAnd es ρ H Q
 | [],b,h,Q,q => by cases h; exact q
 | e :: es,b,h,Q,q => by
   have h : (match evT H ρ e with
     | some b => if b = isAnd then evA H ρ isAnd es else some b
     | none => none) = some b := h
   split at h
   · rename_i c he
     refine evT_ok e he (Q := λ b H' => (b = isAnd → mAll call isAnd es ρ H' Q) ∧ (b = !isAnd → Q b H')) ⟨λ z => ?_,λ z => ?_⟩
     · rw [if_pos z] at h; exact evA_ok isAnd es h q
     · rw [if_neg (by rw [z]; cases isAnd <;> decide)] at h; cases h; exact q
   · exact nn h
end
end

end P_C1

section P_C1b
open PySem

section
variable {call : Fn → List AV → AHeap → (AV → AHeap → Prop) → Prop} {H : AHeap} {ρ : Locals} {ss : List MS} {Q : SPost} {P : AV → AHeap → Prop}
theorem s_assign {x : Nat} {e : ME} {v : AV} (he : ev H ρ e = some v) (h : mSs call ss (upd ρ x v) H Q) : mSs call (.assign x e :: ss) ρ H Q := ev_ok (Q := λ v H' => mSs call ss (upd ρ x v) H' Q) e he h
theorem s_assignE {x : Nat} {e : ME} (h : mE call e ρ H λ v H' => mSs call ss (upd ρ x v) H' Q) : mSs call (.assign x e :: ss) ρ H Q := h
theorem s_assignN {xs : List Nat} {es : List ME} {vs : List AV} (he : evs H ρ es = some vs) (hl : xs.length = vs.length) (h : mSs call ss (upds ρ xs vs) H Q) : mSs call (.assignN xs es :: ss) ρ H Q :=
 evs_ok (Q := λ vs H' => xs.length = vs.length ∧ mSs call ss (upds ρ xs vs) H' Q) es he ⟨hl,h⟩
theorem s_setAttr {o e : ME} {a : At} {x d : Addr} {u : AV} {C : Cl} {k : Nat} {F : At → Option AV} (he : ev H ρ e = some u) (ho : ev H ρ o = some (.ref x)) (hx : H x = some (.inst C k d F)) (hf : isField C a = true) (hk : k ≤ 900) (hs : (F a).isSome = true)
   (h : mSs call ss ρ (H.set x (.inst C k d (setF F a u))) Q) : mSs call (.setAttr o a e :: ss) ρ H Q := by
 refine ev_ok e he (ev_ok o ho ?_)
 refine (?_ : (match H x with | some (.inst C k d F) => isField C a = true ∧ k ≤ 900 ∧ mSs call ss ρ (H.set x (.inst C (if (F a).isSome then k else k + 1) d (setF F a u))) Q | _ => False))
 rw [hx]
 exact ⟨hf,hk,by rw [if_pos hs]; exact h⟩
theorem s_setNew {o e : ME} {a : At} {x d : Addr} {u : AV} {C : Cl} {k : Nat} {F : At → Option AV} (he : ev H ρ e = some u) (ho : ev H ρ o = some (.ref x)) (hx : H x = some (.inst C k d F)) (hf : isField C a = true) (hk : k ≤ 900) (hs : F a = none)
   (h : mSs call ss ρ (H.set x (.inst C (k + 1) d (setF F a u))) Q) : mSs call (.setAttr o a e :: ss) ρ H Q := by
 refine ev_ok e he (ev_ok o ho ?_)
 refine (?_ : (match H x with | some (.inst C k d F) => isField C a = true ∧ k ≤ 900 ∧ mSs call ss ρ (H.set x (.inst C (if (F a).isSome then k else k + 1) d (setF F a u))) Q | _ => False))
 rw [hx]
 exact ⟨hf,hk,by rw [hs]; exact h⟩
theorem s_setAttrE {o e : ME} {a : At} (h : mE call e ρ H λ u H₁ => mE call o ρ H₁ λ v H₂ => match v with
   | .ref x => (match H₂ x with | some (.inst C k d F) => isField C a = true ∧ k ≤ 900 ∧ mSs call ss ρ (H₂.set x (.inst C (if (F a).isSome then k else k + 1) d (setF F a u))) Q | _ => False)
   | _ => False) : mSs call (.setAttr o a e :: ss) ρ H Q := h
theorem at_setNew {H : AHeap} {a : At} {x d : Addr} {u : AV} {C : Cl} {k : Nat} {F : At → Option AV} (hx : H x = some (.inst C k d F)) (hf : isField C a = true) (hk : k ≤ 900) (hs : F a = none) {P : AHeap → Prop} (h : P (H.set x (.inst C (k + 1) d (setF F a u)))) :
   (match H x with | some (.inst C k d F) => isField C a = true ∧ k ≤ 900 ∧ P (H.set x (.inst C (if (F a).isSome then k else k + 1) d (setF F a u))) | _ => False) := by
 rw [hx]; exact ⟨hf,hk,by rw [hs]; exact h⟩
theorem at_setOld {H : AHeap} {a : At} {x d : Addr} {u : AV} {C : Cl} {k : Nat} {F : At → Option AV} (hx : H x = some (.inst C k d F)) (hf : isField C a = true) (hk : k ≤ 900) (hs : (F a).isSome = true) {P : AHeap → Prop} (h : P (H.set x (.inst C k d (setF F a u)))) :
   (match H x with | some (.inst C k d F) => isField C a = true ∧ k ≤ 900 ∧ P (H.set x (.inst C (if (F a).isSome then k else k + 1) d (setF F a u))) | _ => False) := by
 rw [hx]; exact ⟨hf,hk,by rw [if_pos hs]; exact h⟩
noncomputable def sq (call : Fn → List AV → AHeap → (AV → AHeap → Prop) → Prop) (ss : List MS) (Q : SPost) : SPost := λ f ρ₁ H₁ => match f with
 | .next => mSs call ss ρ₁ H₁ Q
 | .ret v => Q (.ret v) ρ₁ H₁
theorem s_back {ρ : Locals} {H : AHeap} (h : mSs call ss ρ H Q) : mSs call [] ρ H (sq call ss Q) := h
theorem s_ite {t : ME} {a b : List MS} {p : Bool} (ht : evT H ρ t = some p) (h1 : p = true → mSs call a ρ H (sq call ss Q)) (h2 : p = false → mSs call b ρ H (sq call ss Q)) : mSs call (.ite t a b :: ss) ρ H Q :=
 evT_ok (Q := λ r H' => (r = true → mSs call a ρ H' (sq call ss Q)) ∧ (r = false → mSs call b ρ H' (sq call ss Q))) t ht ⟨h1,h2⟩
theorem s_iteT {t : ME} {a b : List MS} (ht : evT H ρ t = some true) (h : mSs call a ρ H (sq call ss Q)) : mSs call (.ite t a b :: ss) ρ H Q := s_ite ht (λ _ => h) λ z => by exact tf z
theorem s_iteF {t : ME} {a b : List MS} (ht : evT H ρ t = some false) (h : mSs call b ρ H (sq call ss Q)) : mSs call (.ite t a b :: ss) ρ H Q := s_ite ht (λ z => by exact ft z) λ _ => h
theorem s_skip {t : ME} {a : List MS} (ht : evT H ρ t = some false) (h : mSs call ss ρ H Q) : mSs call (.ite t a [] :: ss) ρ H Q := s_iteF ht h
theorem s_iteE {t : ME} {a b : List MS} (h : mT call t (mE call t ρ H) ρ H λ r H' => (r = true → mSs call a ρ H' (sq call ss Q)) ∧ (r = false → mSs call b ρ H' (sq call ss Q))) : mSs call (.ite t a b :: ss) ρ H Q := h
theorem s_expr {e : ME} (h : mE call e ρ H λ _ H' => mSs call ss ρ H' Q) : mSs call (.expr e :: ss) ρ H Q := h
theorem s_ret {e : ME} {v : AV} (he : ev H ρ e = some v) (h : Q (.ret v) ρ H) : mSs call (.ret (some e) :: ss) ρ H Q := ev_ok (Q := λ v H' => Q (.ret v) ρ H') e he h
theorem s_retE {e : ME} (h : mE call e ρ H λ v H' => Q (.ret v) ρ H') : mSs call (.ret (some e) :: ss) ρ H Q := h
theorem s_ret0 (h : Q (.ret .none) ρ H) : mSs call (.ret none :: ss) ρ H Q := h
theorem s_setSlice {o lo hi e : ME} {x y : Addr} {xs ys : List AV} {i j : Int} (he : ev H ρ e = some (.ref y)) (ho : ev H ρ o = some (.ref x)) (hl : ev H ρ lo = some (.int i)) (hh : ev H ρ hi = some (.int j)) (hy : H y = some (.list ys)) (hx : H x = some (.list xs)) (hxy : x ≠ y) (h0 : 0 ≤ i) (hij : i ≤ j) (hj : j ≤ xs.length) (hs : xs.length + ys.length ≤ lim)
   (h : mSs call ss ρ (H.set x (.list (xs.take i.toNat ++ ys ++ xs.drop j.toNat))) Q) : mSs call (.setSlice o lo hi e :: ss) ρ H Q := by
 refine ev_ok e he (ev_ok o ho (ev_ok lo hl (ev_ok hi hh ?_)))
 refine (?_ : (match H y,H x with
     | some (.list ys),some (.list xs) => x ≠ y ∧ 0 ≤ i ∧ i ≤ j ∧ j ≤ xs.length ∧ xs.length + ys.length ≤ lim ∧ mSs call ss ρ (H.set x (.list (xs.take i.toNat ++ ys ++ xs.drop j.toNat))) Q
     | _,_ => False))
 rw [hy,hx]; exact ⟨hxy,h0,hij,hj,hs,h⟩
theorem e_call {f : Fn} {as : List ME} {vs : List AV} (ha : evs H ρ as = some vs) (h : call f vs H P) : mE call (.call f as) ρ H P := evs_ok (Q := λ vs H' => call f vs H' P) as ha h
theorem e_meth {o : ME} {a : At} {as : List ME} {vs : List AV} {x d : Addr} {C : Cl} {k : Nat} {F : At → Option AV} {f : Fn} (ho : ev H ρ o = some (.ref x)) (hx : H x = some (.inst C k d F)) (hn : F a = none) (hm : methodOf C a = some f) (ha : evs H ρ as = some vs) (h : call f (.ref x :: vs) H P) :
   mE call (.meth o a as) ρ H P := by
 refine ev_ok o ho ?_
 refine (?_ : (match H x with | some (.inst C _ _ F) => F a = none ∧ (match methodOf C a with | some f => mEs call as ρ H λ vs H'' => call f (.ref x :: vs) H'' P | none => False) | _ => False))
 rw [hx]
 refine ⟨hn, ?_⟩
 rw [hm]
 exact evs_ok as ha h
theorem e_methE {o : ME} {a : At} {as : List ME} {x d : Addr} {C : Cl} {k : Nat} {F : At → Option AV} {f : Fn} (ho : ev H ρ o = some (.ref x)) (hx : H x = some (.inst C k d F)) (hn : F a = none) (hm : methodOf C a = some f) (h : mEs call as ρ H λ vs H' => call f (.ref x :: vs) H' P) :
   mE call (.meth o a as) ρ H P := by
 refine ev_ok o ho ?_
 refine (?_ : (match H x with | some (.inst C _ _ F) => F a = none ∧ (match methodOf C a with | some f => mEs call as ρ H λ vs H'' => call f (.ref x :: vs) H'' P | none => False) | _ => False))
 rw [hx]
 refine ⟨hn, ?_⟩
 rw [hm]
 exact h
theorem e_lst {es : List ME} {vs : List AV} (ha : evs H ρ es = some vs) (h : ∀ x,H x = none → P (.ref x) (H.set x (.list vs))) : mE call (.lst es) ρ H P := evs_ok (Q := λ vs H' => fresh H' (.list vs) P) es ha h
theorem e_list {e : ME} {y : Addr} {xs : List AV} (he : ev H ρ e = some (.ref y)) (hy : H y = some (.list xs)) (hl : xs.length ≤ lim) (h : ∀ x,H x = none → P (.ref x) (H.set x (.list xs))) : mE call (.list e) ρ H P := by
 refine ev_ok e he ?_
 refine (?_ : (match H y with | some (.list xs) => xs.length ≤ lim ∧ fresh H (.list xs) P | _ => False))
 rw [hy]; exact ⟨hl,h⟩
theorem e_sorted {e : ME} {y : Addr} {es : List (Int × AV)} (he : ev H ρ e = some (.ref y)) (hy : H y = some (.idict es)) (hk : intKeys es = true) (h : ∀ x,H x = none → P (.ref x) (H.set x (.list (es.map λ p => .int p.1)))) : mE call (.sorted e) ρ H P := by
 refine ev_ok e he ?_
 refine (?_ : (match H y with | some (.idict es) => intKeys es = true ∧ fresh H (.list (es.map λ p => .int p.1)) P | _ => False))
 rw [hy]; exact ⟨hk,h⟩
theorem e_slice {e lo hi : ME} {y : Addr} {xs : List AV} {i j : Int} (he : ev H ρ e = some (.ref y)) (hl : ev H ρ lo = some (.int i)) (hh : ev H ρ hi = some (.int j)) (hy : H y = some (.list xs)) (h0 : 0 ≤ i) (h1 : 0 ≤ j) (hs : xs.length ≤ lim) (h : ∀ x,H x = none → P (.ref x) (H.set x (.list ((xs.take j.toNat).drop i.toNat)))) :
   mE call (.slice e (some lo) (some hi)) ρ H P := by
 refine ev_ok e he (ev_ok lo hl (ev_ok hi hh ?_))
 refine (?_ : (match (AV.ref y),partOk (some (.int i)),partOk (some (.int j)) with
   | .ref x,some l,some h => (match seqAt H x with | some xs => xs.length ≤ 16000000 ∧ fresh H (.list (cutv xs l h)) P | none => False)
   | _,_,_ => False))
 have e1 : partOk (some (.int i)) = some (some i) := if_pos h0
 have e2 : partOk (some (.int j)) = some (some j) := if_pos h1
 have e3 : seqAt H y = some xs := by unfold seqAt; rw [hy]
 rw [e1,e2]
 simp only [e3]
 exact ⟨by unfold lim at hs; exact (ar (.i (.l N0 KM) (.l N0 (.k 16000000))) 1 [_] []) hs,h⟩
theorem e_append {o e : ME} {x : Addr} {xs : List AV} {u : AV} (ho : ev H ρ o = some (.ref x)) (hx : H x = some (.list xs)) (he : ev H ρ e = some u) (hl : xs.length < lim) (h : P .none (H.set x (.list (xs ++ [u])))) : mE call (.append o e) ρ H P := by
 refine ev_ok o ho ⟨by refine (?_ : (match H x with | some (.list _) => true | _ => false) = true); rw [hx],ev_ok e he ?_⟩
 refine (?_ : (match H x with | some (.list xs) => xs.length < lim ∧ P .none (H.set x (.list (xs ++ [u]))) | _ => False))
 rw [hx]; exact ⟨hl,h⟩
theorem e_appendE {o e : ME} {x : Addr} {xs : List AV} (ho : ev H ρ o = some (.ref x)) (hx : H x = some (.list xs)) (h : mE call e ρ H λ u H₂ => match H₂ x with | some (.list xs) => xs.length < lim ∧ P .none (H₂.set x (.list (xs ++ [u]))) | _ => False) : mE call (.append o e) ρ H P :=
 ev_ok o ho ⟨by refine (?_ : (match H x with | some (.list _) => true | _ => false) = true); rw [hx],h⟩
theorem e_new {C : Cl} {as : List ME} {vs : List AV} (ha : evs H ρ as = some vs) (h : ∀ x d,H x = none → H d = none → x ≠ d → call (initOf C) (.ref x :: vs) (H.set x (.inst C 0 d λ _ => none)) λ r H' => r = .none ∧ P (.ref x) H') : mE call (.new C as) ρ H P :=
 evs_ok (Q := λ vs H' => ∀ x d,H' x = none → H' d = none → x ≠ d → call (initOf C) (.ref x :: vs) (H'.set x (.inst C 0 d λ _ => none)) λ r H'' => r = .none ∧ P (.ref x) H'') as ha h
theorem cat_ok {x y : Addr} {xs ys : List AV} (hx : H x = some (.list xs)) (hy : H y = some (.list ys)) (hl : xs.length + ys.length ≤ lim) (h : ∀ z,H z = none → P (.ref z) (H.set z (.list (xs ++ ys)))) : binv H .add (.ref x) (.ref y) P := by
 refine (?_ : (match H x,H y with | some (.list xs),some (.list ys) => xs.length + ys.length ≤ lim ∧ fresh H (.list (xs ++ ys)) P | _,_ => False))
 rw [hx,hy]; exact ⟨hl,h⟩
theorem e_bin {op : Bop} {a b : ME} (h : mE call a ρ H λ u H₁ => mE call b ρ H₁ λ v H₂ => binv H₂ op u v P) : mE call (.bin op a b) ρ H P := h
end
section
variable {call : Fn → List AV → AHeap → (AV → AHeap → Prop) → Prop} {H : AHeap} {ρ : Locals} {ss : List MS} {Q : SPost} {P : AV → AHeap → Prop}
theorem s_forE {xs : List Nat} {one : Bool} {e : ME} {b : List MS} (h : mE call e ρ H λ u H₁ => match u with
   | .ref l => (match H₁ l with
     | some (.list vs) => mFor (bindT xs one) (λ H' => H' l = some (.list vs)) (λ ρ' H' Q' => mSs call b ρ' H' Q') vs ρ H₁ (sq call ss Q)
     | _ => False)
   | _ => False) : mSs call (.forList xs one e b :: ss) ρ H Q := h
theorem for_at {xs : List Nat} {one : Bool} {b : List MS} {l : Addr} {vs : List AV} {Q' : SPost} (hl : H l = some (.list vs)) (h : mFor (bindT xs one) (λ H' => H' l = some (.list vs)) (λ ρ' H' Q' => mSs call b ρ' H' Q') vs ρ H Q') :
   (match H l with
     | some (.list vs) => mFor (bindT xs one) (λ H' => H' l = some (.list vs)) (λ ρ' H' Q' => mSs call b ρ' H' Q') vs ρ H Q'
     | _ => False) := by rw [hl]; exact h
theorem s_for {xs : List Nat} {one : Bool} {e : ME} {b : List MS} {l : Addr} {vs : List AV} (he : ev H ρ e = some (.ref l)) (hl : H l = some (.list vs)) (h : mFor (bindT xs one) (λ H' => H' l = some (.list vs)) (λ ρ' H' Q' => mSs call b ρ' H' Q') vs ρ H (sq call ss Q)) :
   mSs call (.forList xs one e b :: ss) ρ H Q := s_forE (ev_ok e he (for_at hl h))
theorem rep_ok {x : Addr} {v : AV} {k : Int} (hx : H x = some (.list [v])) (h0 : 0 ≤ k) (hk : k ≤ lim) (h : ∀ z,H z = none → P (.ref z) (H.set z (.list (List.replicate k.toNat v)))) : binv H .mul (.ref x) (.int k) P := by
 refine (?_ : (match H x with | some (.list [v]) => 0 ≤ k ∧ k ≤ lim ∧ fresh H (.list (List.replicate k.toNat v)) P | _ => False))
 rw [hx]; exact ⟨h0,hk,h⟩
end
section
variable {call : Fn → List AV → AHeap → (AV → AHeap → Prop) → Prop} {H : AHeap} {ρ : Locals} {P : AV → AHeap → Prop} {Qs : List AV → AHeap → Prop}
theorem es_nil (h : Qs [] H) : mEs call [] ρ H Qs := h
theorem es_cons {e : ME} {es : List ME} {v : AV} (he : ev H ρ e = some v) (h : mEs call es ρ H λ vs H₂ => Qs (v :: vs) H₂) : mEs call (e :: es) ρ H Qs := ev_ok (Q := λ v H₁ => mEs call es ρ H₁ λ vs H₂ => Qs (v :: vs) H₂) e he h
theorem es_consE {e : ME} {es : List ME} (h : mE call e ρ H λ v H₁ => mEs call es ρ H₁ λ vs H₂ => Qs (v :: vs) H₂) : mEs call (e :: es) ρ H Qs := h
theorem es_all {es : List ME} {vs : List AV} (he : evs H ρ es = some vs) (h : Qs vs H) : mEs call es ρ H Qs := evs_ok es he h
theorem e_comp {xs : List Nat} {one : Bool} {src : ME} {cond : Option ME} {elt : ME} {l : Addr} {vs : List AV} (hs : ev H ρ src = some (.ref l)) (hl : H l = some (.list vs))
   (h : mComp (bindT xs one) ρ (λ ρ' H k => mC call cond ρ' H k) (λ ρ' H k => mE call elt ρ' H k) (λ H' => H' l = some (.list vs)) vs [] H λ ys H₂ => ∀ x,H₂ x = none → P (.ref x) (H₂.set x (.list ys))) : mE call (.comp xs one src cond elt) ρ H P := by
 refine ev_ok src hs ?_
 refine (?_ : (match H l with
     | some (.list vs) => mComp (bindT xs one) ρ (λ ρ' H k => mC call cond ρ' H k) (λ ρ' H k => mE call elt ρ' H k) (λ H' => H' l = some (.list vs)) vs [] H λ ys H₂ => fresh H₂ (.list ys) P
     | _ => False))
 rw [hl]; exact h
theorem e_newE {C : Cl} {as : List ME} (h : mEs call as ρ H λ vs H' => ∀ x d,H' x = none → H' d = none → x ≠ d → call (initOf C) (.ref x :: vs) (H'.set x (.inst C 0 d λ _ => none)) λ r H'' => r = .none ∧ P (.ref x) H'') : mE call (.new C as) ρ H P := h
theorem e_ife {t a b : ME} {p : Bool} (ht : evT H ρ t = some p) (h1 : p = true → mE call a ρ H P) (h2 : p = false → mE call b ρ H P) : mE call (.ife t a b) ρ H P :=
 evT_ok (Q := λ r H' => (r = true → mE call a ρ H' P) ∧ (r = false → mE call b ρ H' P)) t ht ⟨h1,h2⟩
end
section
variable {call : Fn → List AV → AHeap → (AV → AHeap → Prop) → Prop} {H : AHeap} {ρ : Locals} {ss : List MS} {Q : SPost}
noncomputable def unpP (call : Fn → List AV → AHeap → (AV → AHeap → Prop) → Prop) (ρ : Locals) (ss : List MS) (Q : SPost) (xs : List Nat) (v : AV) (H' : AHeap) : Prop := match v with
 | .tup vs => xs.length = vs.length ∧ mSs call ss (upds ρ xs vs) H' Q
 | _ => False
theorem s_unpackC {xs : List Nat} {f : Fn} {as : List ME} {vs : List AV} (ha : evs H ρ as = some vs) (h : call f vs H (unpP call ρ ss Q xs)) : mSs call (.unpack xs (.call f as) :: ss) ρ H Q := evs_ok (Q := λ vs H' => call f vs H' (unpP call ρ ss Q xs)) as ha h
end

end P_C1b

section P_C2
open PySem

set_option genInjectivity false in
structure Wh where
 (b db g dg cl m dm md rc drc u du ls : Addr)
structure Mk where
 (k dk : Addr) (num : Int) (adv : Bool) (buf : AV) (pos : Int)
set_option genInjectivity true in
inductive Row where
 | bnd | ins (s e : Int) | del (s : Int) (piece : Addr) (b : Bool) | mrk (k : Addr) (d : Int) | pnt (p : Int) | unm (t : Int)
noncomputable def Row.ctorIdx (x : Row) : Nat := @Row.casesOn (λ _ => Nat) x 0 (λ _ _ => 1) (λ _ _ _ => 2) (λ _ _ => 3) (λ _ => 4) (λ _ => 5)
noncomputable def Row.av : Row → AV
 | .bnd => .tup [.str .boundary]
 | .ins s e => .tup [.str .insert,.int s,.int e]
 | .del s p b => .tup [.str .delete,.int s,.ref p,.bool b]
 | .mrk k d => .tup [.str .marker,.ref k,.int d]
 | .pnt p => .tup [.str .point,.int p]
 | .unm t => .tup [.str .unmodified,.int t]
noncomputable def Row.isB : Row → Bool
 | .bnd => true
 | _ => false
noncomputable def oi : Option Int → AV
 | none => .none
 | some i => .int i
set_option genInjectivity false in
structure Sg where
 cells : List AV
 (gs ge pt zv tk ct sv : Int)
 ms : List Mk
 un : Bool
 ul : Addr
 rows : List Row
 (pb nt : Option Int)
noncomputable def bufF (w : Wh) (σ : Sg) : At → Option AV
 | .number => some (.int 1) | .name => some (.str .a) | .text => some (.ref w.g) | .markers => some (.ref w.m) | .point => some (.int σ.pt) | .begv => some (.int 1) | .zv => some (.int σ.zv) | .mark => some .none
 | .is_live => some (.bool true) | .is_read_only => some (.bool false) | .ticks => some (.int σ.tk) | .codes_ticks => some (.int σ.ct) | .saved_ticks => some (.int σ.sv) | .listeners => some (.ref w.ls)
 | .undo => some (if σ.un = true then .ref w.rc else .none) | .props => some .none | .overlays => some .none | .locals => some .none | .syn => some .none | .file => some .none | _ => none
noncomputable def gapF (w : Wh) (σ : Sg) : At → Option AV
 | .room => some (.int 8) | .cells => some (.ref w.cl) | .gap_start => some (.int σ.gs) | .gap_end => some (.int σ.ge) | _ => none
noncomputable def mkF (r : Mk) : At → Option AV
 | .number => some (.int r.num) | .advances => some (.bool r.adv) | .buffer => some r.buf | .position => some (.int r.pos) | _ => none
noncomputable def mksF (w : Wh) : At → Option AV
 | .rows => some (.ref w.md) | _ => none
noncomputable def recF (w : Wh) : At → Option AV
 | .list => some (.ref w.u) | _ => none
noncomputable def ulF (σ : Sg) : At → Option AV
 | .rows => some (.ref σ.ul) | .dropped => some (.int 0) | .is_on => some (.bool true) | .point_before => some (oi σ.pb) | .noted_tick => some (oi σ.nt) | _ => none
noncomputable def dictOfMs (l : List Mk) : List (Int × AV) := l.map λ r => (r.num,.ref r.k)
structure Buf (H : AHeap) (w : Wh) (σ : Sg) : Prop where
 b : H w.b = some (.inst .buffer 20 w.db (bufF w σ))
 g : H w.g = some (.inst .gap 4 w.dg (gapF w σ))
 cl : H w.cl = some (.list σ.cells)
 m : H w.m = some (.inst .markers 1 w.dm (mksF w))
 md : H w.md = some (.idict (dictOfMs σ.ms))
 ls : H w.ls = some (.list [])
 mks : ∀ r ∈ σ.ms,H r.k = some (.inst .marker 4 r.dk (mkF r))
 rc : σ.un = true → H w.rc = some (.inst .recording 1 w.drc (recF w))
 u : σ.un = true → H w.u = some (.inst .undolist 5 w.du (ulF σ))
 ul : σ.un = true → H σ.ul = some (.list (σ.rows.map Row.av))
 n1 : w.cl ≠ w.ls
 n2 : σ.un = true → σ.ul ≠ w.cl ∧ σ.ul ≠ w.ls
 n3 : σ.ms.Pairwise λ x y => x.k ≠ y.k
noncomputable def Ow (w : Wh) (σ : Sg) (a : Addr) : Prop := a = w.b ∨ a = w.g ∨ a = w.cl ∨ a = w.md ∨ a = w.ls ∨ (σ.un = true ∧ (a = w.u ∨ a = σ.ul)) ∨ ∃ r ∈ σ.ms,a = r.k
structure Go (w : Wh) (σ : Sg) (H : AHeap) (σ' : Sg) (H' : AHeap) : Prop where
 buf : Buf H' w σ'
 ext : ∀ a o,H a = some o → ¬ Ow w σ a → H' a = some o ∧ ¬ Ow w σ' a
section
variable {H H' H'' : AHeap} {w : Wh} {σ σ' σ'' : Sg}
theorem ne_of {a b : Addr} {o o' : AO} (h : H a = some o) (h' : H b = some o') (n : o ≠ o') : a ≠ b := by
 rintro rfl; rw [h] at h'; exact n (Option.some.inj h')
noncomputable def Cl.ix (c : Cl) : Nat := Cl.rec (motive := λ _ => Nat) 0 1 2 3 4 5 6 c
noncomputable def AO.tag (o : AO) : Nat := AO.rec (motive := λ _ => Nat) (λ _ => 21) (λ _ => 20) (λ c _ _ _ => c.ix) (λ _ => 22) o
theorem ff : false = false := rfl
theorem nilm {α : Type} {p : α → Prop} : ∀ x ∈ ([] : List α),p x := λ _ h => absurd h List.not_mem_nil
theorem ne_tag {a b : Addr} {o o' : AO} (h : H a = some o) (h' : H b = some o') (n : Nat.beq o.tag o'.tag = false) : a ≠ b :=
 ne_of h h' λ e => by rw [e,Nat.beq_refl] at n; exact tf n
theorem at_other {a c : Addr} {o x : AO} (h : H a = some o) (n : a ≠ c) : (H.set c x) a = some o := (if_neg n).trans h
theorem at_self {c : Addr} {x : AO} : (H.set c x) c = some x := if_pos rfl
theorem Go.refl (B : Buf H w σ) : Go w σ H σ H := ⟨B,λ _ _ e n => ⟨e,n⟩⟩
theorem Go.trans (x : Go w σ H σ' H') (y : Go w σ' H' σ'' H'') : Go w σ H σ'' H'' := ⟨y.buf,λ a o e n => let ⟨e',n'⟩ := x.ext a o e n; y.ext a o e' n'⟩
theorem Buf.live (B : Buf H w σ) {a : Addr} (o : Ow w σ a) : ∃ x,H a = some x := by
 rcases o with rfl | rfl | rfl | rfl | rfl | ⟨u,rfl | rfl⟩ | ⟨r,hr,rfl⟩
 · exact ⟨_,B.b⟩
 · exact ⟨_,B.g⟩
 · exact ⟨_,B.cl⟩
 · exact ⟨_,B.md⟩
 · exact ⟨_,B.ls⟩
 · exact ⟨_,B.u u⟩
 · exact ⟨_,B.ul u⟩
 · exact ⟨_,B.mks r hr⟩
theorem Buf.new (B : Buf H w σ) {x : Addr} (h : H x = none) : ¬ Ow w σ x := λ o => by obtain ⟨y,e⟩ := B.live o; rw [h] at e; exact nn e
theorem Buf.mono (B : Buf H w σ) (k : ∀ a o,H a = some o → H' a = some o) : Buf H' w σ :=
 ⟨k _ _ B.b,k _ _ B.g,k _ _ B.cl,k _ _ B.m,k _ _ B.md,k _ _ B.ls,λ r hr => k _ _ (B.mks r hr),λ u => k _ _ (B.rc u),λ u => k _ _ (B.u u),λ u => k _ _ (B.ul u),B.n1,B.n2,B.n3⟩
theorem keep_new {x : Addr} {o : AO} (h : H x = none) : ∀ a q,H a = some q → (H.set x o) a = some q := λ a q e => at_other e λ z => by rw [z,h] at e; exact nn e
theorem Go.new (B : Buf H w σ) {x : Addr} {o : AO} (h : H x = none) : Go w σ H σ (H.set x o) := ⟨B.mono (keep_new h),λ a q e n => ⟨keep_new h a q e,n⟩⟩
theorem ext_set {c : Addr} {x : AO} (hc : Ow w σ c) (same : ∀ a,Ow w σ' a → Ow w σ a) : ∀ a o,H a = some o → ¬ Ow w σ a → (H.set c x) a = some o ∧ ¬ Ow w σ' a := λ a o e n =>
 ⟨at_other e λ z => n (z ▸ hc),λ o' => n (same a o')⟩
theorem Buf.setB (B : Buf H w σ) {F : At → Option AV} {pt zv tk ct sv : Int} (e : F = bufF w { σ with pt := pt,zv := zv,tk := tk,ct := ct,sv := sv }) :
   Go w σ H { σ with pt := pt,zv := zv,tk := tk,ct := ct,sv := sv } (H.set w.b (.inst .buffer 20 w.db F)) := by
 subst e
 refine ⟨⟨at_self,at_other B.g (ne_tag B.g B.b ff),at_other B.cl (ne_tag B.cl B.b ff),at_other B.m (ne_tag B.m B.b ff),at_other B.md (ne_tag B.md B.b ff),at_other B.ls (ne_tag B.ls B.b ff),λ r hr => at_other (B.mks r hr) (ne_tag (B.mks r hr) B.b ff),
   λ u => at_other (B.rc u) (ne_tag (B.rc u) B.b ff),λ u => at_other (B.u u) (ne_tag (B.u u) B.b ff),λ u => at_other (B.ul u) (ne_tag (B.ul u) B.b ff),B.n1,B.n2,B.n3⟩,ext_set (.inl rfl) λ a h => h⟩
theorem Buf.setG (B : Buf H w σ) {F : At → Option AV} {gs ge : Int} (e : F = gapF w { σ with gs := gs,ge := ge }) :
   Go w σ H { σ with gs := gs,ge := ge } (H.set w.g (.inst .gap 4 w.dg F)) := by
 subst e
 refine ⟨⟨at_other B.b (ne_tag B.b B.g ff),at_self,at_other B.cl (ne_tag B.cl B.g ff),at_other B.m (ne_tag B.m B.g ff),at_other B.md (ne_tag B.md B.g ff),at_other B.ls (ne_tag B.ls B.g ff),λ r hr => at_other (B.mks r hr) (ne_tag (B.mks r hr) B.g ff),
   λ u => at_other (B.rc u) (ne_tag (B.rc u) B.g ff),λ u => at_other (B.u u) (ne_tag (B.u u) B.g ff),λ u => at_other (B.ul u) (ne_tag (B.ul u) B.g ff),B.n1,B.n2,B.n3⟩,ext_set (.inr (.inl rfl)) λ a h => h⟩
theorem Buf.setC (B : Buf H w σ) {cells : List AV} : Go w σ H { σ with cells := cells } (H.set w.cl (.list cells)) :=
 ⟨⟨at_other B.b (ne_tag B.b B.cl ff),at_other B.g (ne_tag B.g B.cl ff),at_self,at_other B.m (ne_tag B.m B.cl ff),at_other B.md (ne_tag B.md B.cl ff),at_other B.ls B.n1.symm,λ r hr => at_other (B.mks r hr) (ne_tag (B.mks r hr) B.cl ff),
   λ u => at_other (B.rc u) (ne_tag (B.rc u) B.cl ff),λ u => at_other (B.u u) (ne_tag (B.u u) B.cl ff),λ u => at_other (B.ul u) (B.n2 u).1,B.n1,B.n2,B.n3⟩,ext_set (.inr (.inr (.inl rfl))) λ a h => h⟩
theorem Buf.setL (B : Buf H w σ) (un : σ.un = true) {rows : List Row} : Go w σ H { σ with rows := rows } (H.set σ.ul (.list (rows.map Row.av))) :=
 ⟨⟨at_other B.b (ne_tag B.b (B.ul un) ff),at_other B.g (ne_tag B.g (B.ul un) ff),at_other B.cl (B.n2 un).1.symm,at_other B.m (ne_tag B.m (B.ul un) ff),at_other B.md (ne_tag B.md (B.ul un) ff),at_other B.ls (B.n2 un).2.symm,λ r hr => at_other (B.mks r hr) (ne_tag (B.mks r hr) (B.ul un) ff),
   λ u => at_other (B.rc u) (ne_tag (B.rc u) (B.ul un) ff),λ u => at_other (B.u u) (ne_tag (B.u u) (B.ul un) ff),λ u => at_self,B.n1,B.n2,B.n3⟩,ext_set (.inr (.inr (.inr (.inr (.inr (.inl ⟨un,.inr rfl⟩)))))) λ a h => h⟩
theorem Buf.setU (B : Buf H w σ) (un : σ.un = true) {F : At → Option AV} {pb nt : Option Int} (e : F = ulF { σ with pb := pb,nt := nt }) : Go w σ H { σ with pb := pb,nt := nt } (H.set w.u (.inst .undolist 5 w.du F)) := by
 subst e
 refine ⟨⟨at_other B.b (ne_tag B.b (B.u un) ff),at_other B.g (ne_tag B.g (B.u un) ff),at_other B.cl (ne_tag B.cl (B.u un) ff),at_other B.m (ne_tag B.m (B.u un) ff),at_other B.md (ne_tag B.md (B.u un) ff),at_other B.ls (ne_tag B.ls (B.u un) ff),λ r hr => at_other (B.mks r hr) (ne_tag (B.mks r hr) (B.u un) ff),
   λ u => at_other (B.rc u) (ne_tag (B.rc u) (B.u un) ff),λ u => at_self,λ u => at_other (B.ul u) (ne_tag (B.ul u) (B.u un) ff),B.n1,B.n2,B.n3⟩,ext_set (.inr (.inr (.inr (.inr (.inr (.inl ⟨un,.inl rfl⟩)))))) λ a h => h⟩
theorem Buf.setR (B : Buf H w σ) (un : σ.un = true) {F : At → Option AV} {x : Addr} {rows : List Row} (hx : H x = none) (e : F = ulF { σ with ul := x }) : Go w σ H { σ with ul := x,rows := rows } ((H.set x (.list (rows.map Row.av))).set w.u (.inst .undolist 5 w.du F)) := by
 subst e
 have k := keep_new (o := .list (rows.map Row.av)) hx
 have hxu : x ≠ w.u := λ z => by rw [z,B.u un] at hx; exact sn hx
 have old : ∀ {a o},H a = some o → a ≠ w.u → ((H.set x (.list (rows.map Row.av))).set w.u (.inst .undolist 5 w.du (ulF { σ with ul := x }))) a = some o := λ e n => at_other (k _ _ e) n
 refine ⟨⟨old B.b (ne_tag B.b (B.u un) ff),old B.g (ne_tag B.g (B.u un) ff),old B.cl (ne_tag B.cl (B.u un) ff),old B.m (ne_tag B.m (B.u un) ff),old B.md (ne_tag B.md (B.u un) ff),old B.ls (ne_tag B.ls (B.u un) ff),λ r hr => old (B.mks r hr) (ne_tag (B.mks r hr) (B.u un) ff),
   λ u => old (B.rc u) (ne_tag (B.rc u) (B.u un) ff),λ u => at_self,λ u => at_other at_self hxu,B.n1,λ u => ⟨λ z => ?_,λ z => ?_⟩,B.n3⟩,λ a o e n => ?_⟩
 · have z : x = w.cl := z
   rw [z,B.cl] at hx; exact sn hx
 · have z : x = w.ls := z
   rw [z,B.ls] at hx; exact sn hx
 · have au : a ≠ w.u := λ z => n (.inr (.inr (.inr (.inr (.inr (.inl ⟨un,.inl z⟩))))))
   refine ⟨old e au,λ h => ?_⟩
   rcases h with h | h | h | h | h | ⟨u,h | h⟩ | h
   · exact n (.inl h)
   · exact n (.inr (.inl h))
   · exact n (.inr (.inr (.inl h)))
   · exact n (.inr (.inr (.inr (.inl h))))
   · exact n (.inr (.inr (.inr (.inr (.inl h)))))
   · exact au h
   · have h : a = x := h
     rw [h,hx] at e; exact nn e
   · exact n (.inr (.inr (.inr (.inr (.inr (.inr h))))))
theorem Buf.setK (B : Buf H w σ) {l₁ l₂ : List Mk} {r : Mk} {F : At → Option AV} {p : Int} (hm : σ.ms = l₁ ++ r :: l₂) (e : F = mkF { r with pos := p }) :
   Go w σ H { σ with ms := l₁ ++ { r with pos := p } :: l₂ } (H.set r.k (.inst .marker 4 r.dk F)) := by
 subst e
 have hr : r ∈ σ.ms := by rw [hm]; simp
 have B' := B.mks r hr
 have hk : ∀ q ∈ l₁ ++ l₂,q.k ≠ r.k := by
   intro q hq
   have n3 := B.n3
   rw [hm,List.pairwise_append] at n3
   obtain ⟨_,h2,h3⟩ := n3
   rcases List.mem_append.mp hq with h | h
   · exact h3 q h r (by simp)
   · exact ((List.pairwise_cons.mp h2).1 q h).symm
 refine ⟨⟨at_other B.b (ne_tag B.b B' ff),at_other B.g (ne_tag B.g B' ff),at_other B.cl (ne_tag B.cl B' ff),at_other B.m (ne_tag B.m B' ff), ?_,at_other B.ls (ne_tag B.ls B' ff),λ q hq => ?_,
   λ u => at_other (B.rc u) (ne_tag (B.rc u) B' ff),λ u => at_other (B.u u) (ne_tag (B.u u) B' ff),λ u => at_other (B.ul u) (ne_tag (B.ul u) B' ff),B.n1,B.n2, ?_⟩,ext_set (.inr (.inr (.inr (.inr (.inr (.inr ⟨r,hr,rfl⟩)))))) λ a h => ?_⟩
 · refine at_other ?_ (ne_tag B.md B' ff)
   have := B.md
   rw [hm] at this
   refine (?_ : H w.md = some (.idict (dictOfMs (l₁ ++ { r with pos := p } :: l₂))))
   rw [this]
   simp [dictOfMs]
 · have hq : q ∈ l₁ ++ { r with pos := p } :: l₂ := hq
   rcases List.mem_append.mp hq with h | h
   · exact at_other (B.mks q (by rw [hm]; simp [h])) (hk q (by simp [h]))
   · rcases List.mem_cons.mp h with rfl | h
     · exact at_self
     · exact at_other (B.mks q (by rw [hm]; simp [h])) (hk q (by simp [h]))
 · have n3 := B.n3
   rw [hm] at n3
   refine (?_ : (l₁ ++ { r with pos := p } :: l₂).Pairwise _)
   rw [List.pairwise_append,List.pairwise_cons] at n3 ⊢
   obtain ⟨a,⟨b,c⟩,d⟩ := n3
   refine ⟨a,⟨b,c⟩,λ x hx y hy => ?_⟩
   rcases List.mem_cons.mp hy with rfl | hy
   · exact d x hx r (.head _)
   · exact d x hx y (.tail _ hy)
 · rcases h with h | h | h | h | h | h | ⟨q,hq,h⟩
   · exact .inl h
   · exact .inr (.inl h)
   · exact .inr (.inr (.inl h))
   · exact .inr (.inr (.inr (.inl h)))
   · exact .inr (.inr (.inr (.inr (.inl h))))
   · exact .inr (.inr (.inr (.inr (.inr (.inl h)))))
   · have hq : q ∈ l₁ ++ { r with pos := p } :: l₂ := hq
     refine .inr (.inr (.inr (.inr (.inr (.inr ?_)))))
     rcases List.mem_append.mp hq with z | z
     · exact ⟨q,by rw [hm]; simp [z],h⟩
     · rcases List.mem_cons.mp z with rfl | z
       · exact ⟨r,hr,h⟩
       · exact ⟨q,by rw [hm]; simp [z],h⟩
end
noncomputable def Calls (call : Nat → Fn → List AV → AHeap → (AV → AHeap → Prop) → Prop) : Prop := ∀ n f args H Q,args.length + (dflOf f).length = arity f →
 mSs (call n) (bodyOf f) (argL (args ++ dflOf f)) H (λ mf _ H' => match mf with | .next => Q .none H' | .ret v => Q v H') → call (n + 1) f args H Q

end P_C2

section P_C3
open PySem

@[simp] theorem bufF_number (w : Wh) (σ : Sg) : bufF w σ .number = some (.int 1) := rfl
@[simp] theorem bufF_name (w : Wh) (σ : Sg) : bufF w σ .name = some (.str .a) := rfl
@[simp] theorem bufF_text (w : Wh) (σ : Sg) : bufF w σ .text = some (.ref w.g) := rfl
@[simp] theorem bufF_markers (w : Wh) (σ : Sg) : bufF w σ .markers = some (.ref w.m) := rfl
@[simp] theorem bufF_point (w : Wh) (σ : Sg) : bufF w σ .point = some (.int σ.pt) := rfl
@[simp] theorem bufF_begv (w : Wh) (σ : Sg) : bufF w σ .begv = some (.int 1) := rfl
@[simp] theorem bufF_zv (w : Wh) (σ : Sg) : bufF w σ .zv = some (.int σ.zv) := rfl
@[simp] theorem bufF_is_read_only (w : Wh) (σ : Sg) : bufF w σ .is_read_only = some (.bool false) := rfl
@[simp] theorem bufF_ticks (w : Wh) (σ : Sg) : bufF w σ .ticks = some (.int σ.tk) := rfl
@[simp] theorem bufF_codes_ticks (w : Wh) (σ : Sg) : bufF w σ .codes_ticks = some (.int σ.ct) := rfl
@[simp] theorem bufF_saved_ticks (w : Wh) (σ : Sg) : bufF w σ .saved_ticks = some (.int σ.sv) := rfl
@[simp] theorem bufF_listeners (w : Wh) (σ : Sg) : bufF w σ .listeners = some (.ref w.ls) := rfl
@[simp] theorem bufF_undo (w : Wh) (σ : Sg) : bufF w σ .undo = some (if σ.un = true then .ref w.rc else .none) := rfl
@[simp] theorem bufF_props (w : Wh) (σ : Sg) : bufF w σ .props = some .none := rfl
@[simp] theorem bufF_overlays (w : Wh) (σ : Sg) : bufF w σ .overlays = some .none := rfl
@[simp] theorem bufF_size (w : Wh) (σ : Sg) : bufF w σ .size = none := rfl
@[simp] theorem bufF_codes (w : Wh) (σ : Sg) : bufF w σ .codes = none := rfl
@[simp] theorem bufF_goto (w : Wh) (σ : Sg) : bufF w σ .goto = none := rfl
@[simp] theorem bufF_is_modified (w : Wh) (σ : Sg) : bufF w σ .is_modified = none := rfl
@[simp] theorem bufF_set_modified (w : Wh) (σ : Sg) : bufF w σ .set_modified = none := rfl
@[simp] theorem bufF_touch (w : Wh) (σ : Sg) : bufF w σ .touch = none := rfl
@[simp] theorem gapF_room (w : Wh) (σ : Sg) : gapF w σ .room = some (.int 8) := rfl
@[simp] theorem gapF_cells (w : Wh) (σ : Sg) : gapF w σ .cells = some (.ref w.cl) := rfl
@[simp] theorem gapF_gap_start (w : Wh) (σ : Sg) : gapF w σ .gap_start = some (.int σ.gs) := rfl
@[simp] theorem gapF_gap_end (w : Wh) (σ : Sg) : gapF w σ .gap_end = some (.int σ.ge) := rfl
@[simp] theorem gapF_size (w : Wh) (σ : Sg) : gapF w σ .size = none := rfl
@[simp] theorem gapF_codes (w : Wh) (σ : Sg) : gapF w σ .codes = none := rfl
@[simp] theorem gapF_move_gap (w : Wh) (σ : Sg) : gapF w σ .move_gap = none := rfl
@[simp] theorem gapF_widen_gap (w : Wh) (σ : Sg) : gapF w σ .widen_gap = none := rfl
@[simp] theorem gapF_insert (w : Wh) (σ : Sg) : gapF w σ .insert = none := rfl
@[simp] theorem gapF_delete (w : Wh) (σ : Sg) : gapF w σ .delete = none := rfl
@[simp] theorem mkF_number (r : Mk) : mkF r .number = some (.int r.num) := rfl
@[simp] theorem mkF_advances (r : Mk) : mkF r .advances = some (.bool r.adv) := rfl
@[simp] theorem mkF_buffer (r : Mk) : mkF r .buffer = some r.buf := rfl
@[simp] theorem mkF_position (r : Mk) : mkF r .position = some (.int r.pos) := rfl
@[simp] theorem mksF_rows (w : Wh) : mksF w .rows = some (.ref w.md) := rfl
@[simp] theorem mksF_numbers (w : Wh) : mksF w .numbers = none := rfl
@[simp] theorem mksF_put (w : Wh) : mksF w .put = none := rfl
@[simp] theorem mksF_within (w : Wh) : mksF w .within = none := rfl
@[simp] theorem mksF_inserted (w : Wh) : mksF w .inserted = none := rfl
@[simp] theorem mksF_deleted (w : Wh) : mksF w .deleted = none := rfl
@[simp] theorem mksF_replaced (w : Wh) : mksF w .replaced = none := rfl
@[simp] theorem recF_list (w : Wh) : recF w .list = some (.ref w.u) := rfl
@[simp] theorem recF_text_comes (w : Wh) : recF w .text_comes = none := rfl
@[simp] theorem recF_text_goes (w : Wh) : recF w .text_goes = none := rfl
@[simp] theorem ulF_rows (σ : Sg) : ulF σ .rows = some (.ref σ.ul) := rfl
@[simp] theorem ulF_is_on (σ : Sg) : ulF σ .is_on = some (.bool true) := rfl
@[simp] theorem ulF_point_before (σ : Sg) : ulF σ .point_before = some (oi σ.pb) := rfl
@[simp] theorem ulF_noted_tick (σ : Sg) : ulF σ .noted_tick = some (oi σ.nt) := rfl
@[simp] theorem ulF_boundary (σ : Sg) : ulF σ .boundary = none := rfl
@[simp] theorem ulF_begin_command (σ : Sg) : ulF σ .begin_command = none := rfl
@[simp] theorem ulF_note_state (σ : Sg) : ulF σ .note_state = none := rfl
@[simp] theorem ulF_note_insert (σ : Sg) : ulF σ .note_insert = none := rfl
@[simp] theorem ulF_note_delete (σ : Sg) : ulF σ .note_delete = none := rfl
@[simp] theorem ulF_is_at_boundary (σ : Sg) : ulF σ .is_at_boundary = none := rfl
@[simp] theorem ulF_renew_unmodified (σ : Sg) : ulF σ .renew_unmodified = none := rfl
section
variable (H : AHeap) (ρ : Locals)
@[simp] theorem ev_none  : ev H ρ (.none) = some .none := rfl
@[simp] theorem ev_bool (b : Bool) : ev H ρ (.bool b) = some (.bool b) := rfl
@[simp] theorem ev_int (i : Int) : ev H ρ (.int i) = some (.int i) := rfl
@[simp] theorem ev_str (x : Sy) : ev H ρ (.str x) = some (.str x) := rfl
@[simp] theorem ev_var (x : Nat) : ev H ρ (.var x) = ρ x := rfl
@[simp] theorem ev_bnd  : ev H ρ .bnd = some (.tup [.str .boundary]) := rfl
@[simp] theorem ev_attr (e : ME) (a : At) : ev H ρ (.attr e a) = (match ev H ρ e with
   | some (.ref x) => (match H x with | some (.inst C _ _ F) => if isField C a = true then F a else none | _ => none)
   | _ => none) := rfl
@[simp] theorem ev_len (e : ME) : ev H ρ (.len e) = (match ev H ρ e with
   | some (.ref x) => (match H x with | some (.list xs) => if xs.length ≤ lim then some (.int xs.length) else none | _ => none)
   | _ => none) := rfl
@[simp] theorem ev_min (a b : ME) : ev H ρ (.min a b) = (match ev H ρ a,ev H ρ b with | some (.int x),some (.int y) => some (.int (min x y)) | _,_ => none) := rfl
@[simp] theorem ev_max (a b : ME) : ev H ρ (.max a b) = (match ev H ρ a,ev H ρ b with | some (.int x),some (.int y) => some (.int (max x y)) | _,_ => none) := rfl
@[simp] theorem ev_neg (e : ME) : ev H ρ (.neg e) = (match ev H ρ e with | some (.int x) => some (.int (-x)) | _ => none) := rfl
@[simp] theorem ev_bin (op : Bop) (a b : ME) : ev H ρ (.bin op a b) = (match ev H ρ a,ev H ρ b with | some u,some v => opv op u v | _,_ => none) := rfl
@[simp] theorem ev_cmp (op : Cop) (a b : ME) : ev H ρ (.cmp op a b) = (match ev H ρ a,ev H ρ b with | some u,some v => (cmpv H op u v).map .bool | _,_ => none) := rfl
@[simp] theorem ev_idx (a b : ME) : ev H ρ (.idx a b) = (match ev H ρ a,ev H ρ b with | some u,some v => idxv H u v | _,_ => none) := rfl
@[simp] theorem ev_tup (es : List ME) : ev H ρ (.tup es) = (evs H ρ es).map .tup := rfl
@[simp] theorem ev_or (es : List ME) : ev H ρ (.or es) = (evB H ρ false es).map .bool := rfl
@[simp] theorem ev_and (es : List ME) : ev H ρ (.and es) = (evB H ρ true es).map .bool := rfl
@[simp] theorem evs_nil : evs H ρ [] = some [] := rfl
@[simp] theorem evs_cons (e : ME) (es : List ME) : evs H ρ (e :: es) = (match ev H ρ e,evs H ρ es with | some v,some vs => some (v :: vs) | _,_ => none) := rfl
@[simp] theorem evB_cons (p : Bool) (e : ME) (es : List ME) : evB H ρ p (e :: es) = (match ev H ρ e with
   | some (.bool b) => if (es.isEmpty || b != p) = true then some b else evB H ρ p es
   | _ => none) := rfl
@[simp] theorem evT_not (e : ME) : evT H ρ (.not e) = (evT H ρ e).map (!·) := rfl
@[simp] theorem evT_and (es : List ME) : evT H ρ (.and es) = evA H ρ true es := rfl
@[simp] theorem evT_or (es : List ME) : evT H ρ (.or es) = evA H ρ false es := rfl
@[simp] theorem evA_nil (p : Bool) : evA H ρ p [] = some p := rfl
@[simp] theorem evA_cons (p : Bool) (e : ME) (es : List ME) : evA H ρ p (e :: es) = (match evT H ρ e with
   | some b => if b = p then evA H ρ p es else some b
   | none => none) := rfl
@[simp] theorem evT_chain (a b c : ME) (p q : Cop) : evT H ρ (.chain a p b q c) = (match ev H ρ a,ev H ρ b with
   | some u,some v => (match cmpv H p u v with
     | some true => (match ev H ρ c with | some x => cmpv H q v x | none => none)
     | r => r)
   | _,_ => none) := rfl
@[simp] theorem evT_var (x : Nat) : evT H ρ (.var x) = (match ev H ρ (.var x) with | some (.bool b) => some b | _ => none) := rfl
@[simp] theorem evT_cmp (op : Cop) (a b : ME) : evT H ρ (.cmp op a b) = (match ev H ρ (.cmp op a b) with | some (.bool b) => some b | _ => none) := rfl
@[simp] theorem evT_attr (e : ME) (a : At) : evT H ρ (.attr e a) = (match ev H ρ (.attr e a) with | some (.bool b) => some b | _ => none) := rfl
@[simp] theorem evT_idx (e i : ME) : evT H ρ (.idx e i) = (match ev H ρ (.idx e i) with | some (.bool b) => some b | _ => none) := rfl
@[simp] theorem evT_bool (b : Bool) : evT H ρ (.bool b) = (match ev H ρ (.bool b) with | some (.bool b) => some b | _ => none) := rfl
@[simp] theorem opv_add (x y : Int) : opv .add (.int x) (.int y) = some (.int (x + y)) := rfl
@[simp] theorem opv_sub (x y : Int) : opv .sub (.int x) (.int y) = some (.int (x - y)) := rfl
@[simp] theorem cmp_lt (x y : Int) : cmpv H .lt (.int x) (.int y) = some (decide (x < y)) := rfl
@[simp] theorem cmp_le (x y : Int) : cmpv H .le (.int x) (.int y) = some (decide (x ≤ y)) := rfl
@[simp] theorem cmp_gt (x y : Int) : cmpv H .gt (.int x) (.int y) = some (decide (x > y)) := rfl
@[simp] theorem cmp_ge (x y : Int) : cmpv H .ge (.int x) (.int y) = some (decide (x ≥ y)) := rfl
@[simp] theorem cmp_eqi (x y : Int) : cmpv H .eq (.int x) (.int y) = some (x == y) := rfl
@[simp] theorem cmp_nei (x y : Int) : cmpv H .ne (.int x) (.int y) = some (!(x == y)) := rfl
@[simp] theorem cmp_neni (y : Int) : cmpv H .ne .none (.int y) = some true := rfl
@[simp] theorem cmp_nein (y : Int) : cmpv H .ne (.int y) .none = some true := rfl
@[simp] theorem cmp_eqs (x y : Sy) : cmpv H .eq (.str x) (.str y) = some (decide (x = y)) := rfl
@[simp] theorem cmp_isn : cmpv H .is_ .none .none = some true := rfl
@[simp] theorem cmp_isr (x : Addr) : cmpv H .is_ (.ref x) .none = some false := rfl
@[simp] theorem cmp_notn : cmpv H .isNot .none .none = some false := rfl
@[simp] theorem cmp_notr (x : Addr) : cmpv H .isNot (.ref x) .none = some true := rfl
@[simp] theorem cmp_noti (x : Int) : cmpv H .isNot (.int x) .none = some true := rfl
@[simp] theorem idx_tup (xs : List AV) (k : Int) : idxv H (.tup xs) (.int k) = nth xs k := rfl
@[simp] theorem idx_ref (x : Addr) (k : Int) : idxv H (.ref x) (.int k) = (match H x with | some (.list xs) => nth xs k | some (.idict es) => keyOf es k | _ => none) := rfl
end
@[simp] theorem isF_buffer_number : isField .buffer .number = true := rfl
@[simp] theorem isF_buffer_name : isField .buffer .name = true := rfl
@[simp] theorem isF_buffer_text : isField .buffer .text = true := rfl
@[simp] theorem isF_buffer_markers : isField .buffer .markers = true := rfl
@[simp] theorem isF_buffer_point : isField .buffer .point = true := rfl
@[simp] theorem isF_buffer_begv : isField .buffer .begv = true := rfl
@[simp] theorem isF_buffer_zv : isField .buffer .zv = true := rfl
@[simp] theorem isF_buffer_mark : isField .buffer .mark = true := rfl
@[simp] theorem isF_buffer_is_live : isField .buffer .is_live = true := rfl
@[simp] theorem isF_buffer_is_read_only : isField .buffer .is_read_only = true := rfl
@[simp] theorem isF_buffer_ticks : isField .buffer .ticks = true := rfl
@[simp] theorem isF_buffer_codes_ticks : isField .buffer .codes_ticks = true := rfl
@[simp] theorem isF_buffer_saved_ticks : isField .buffer .saved_ticks = true := rfl
@[simp] theorem isF_buffer_listeners : isField .buffer .listeners = true := rfl
@[simp] theorem isF_buffer_undo : isField .buffer .undo = true := rfl
@[simp] theorem isF_buffer_props : isField .buffer .props = true := rfl
@[simp] theorem isF_buffer_overlays : isField .buffer .overlays = true := rfl
@[simp] theorem isF_buffer_locals : isField .buffer .locals = true := rfl
@[simp] theorem isF_buffer_syn : isField .buffer .syn = true := rfl
@[simp] theorem isF_buffer_file : isField .buffer .file = true := rfl
@[simp] theorem isF_gap_room : isField .gap .room = true := rfl
@[simp] theorem isF_gap_cells : isField .gap .cells = true := rfl
@[simp] theorem isF_gap_gap_start : isField .gap .gap_start = true := rfl
@[simp] theorem isF_gap_gap_end : isField .gap .gap_end = true := rfl
@[simp] theorem isF_marker_number : isField .marker .number = true := rfl
@[simp] theorem isF_marker_advances : isField .marker .advances = true := rfl
@[simp] theorem isF_marker_buffer : isField .marker .buffer = true := rfl
@[simp] theorem isF_marker_position : isField .marker .position = true := rfl
@[simp] theorem isF_markers_rows : isField .markers .rows = true := rfl
@[simp] theorem isF_undolist_rows : isField .undolist .rows = true := rfl
@[simp] theorem isF_undolist_dropped : isField .undolist .dropped = true := rfl
@[simp] theorem isF_undolist_is_on : isField .undolist .is_on = true := rfl
@[simp] theorem isF_undolist_point_before : isField .undolist .point_before = true := rfl
@[simp] theorem isF_undolist_noted_tick : isField .undolist .noted_tick = true := rfl
@[simp] theorem isF_recording_list : isField .recording .list = true := rfl
@[simp] theorem isF_piece_codes : isField .piece .codes = true := rfl
@[simp] theorem isF_piece_runs : isField .piece .runs = true := rfl
section
variable {call : Nat → Fn → List AV → AHeap → (AV → AHeap → Prop) → Prop} {n : Nat} {H : AHeap} {w : Wh} {σ : Sg} {Q : AV → AHeap → Prop}
theorem Buf.pt (B : Buf H w σ) (v : Int) : Go w σ H { σ with pt := v } (H.set w.b (.inst .buffer 20 w.db (setF (bufF w σ) .point (.int v)))) :=
 B.setB (by funext a; cases a <;> rfl)
theorem Buf.zv (B : Buf H w σ) (v : Int) : Go w σ H { σ with zv := v } (H.set w.b (.inst .buffer 20 w.db (setF (bufF w σ) .zv (.int v)))) :=
 B.setB (by funext a; cases a <;> rfl)
theorem Buf.tk (B : Buf H w σ) (v : Int) : Go w σ H { σ with tk := v } (H.set w.b (.inst .buffer 20 w.db (setF (bufF w σ) .ticks (.int v)))) :=
 B.setB (by funext a; cases a <;> rfl)
theorem Buf.ct (B : Buf H w σ) (v : Int) : Go w σ H { σ with ct := v } (H.set w.b (.inst .buffer 20 w.db (setF (bufF w σ) .codes_ticks (.int v)))) :=
 B.setB (by funext a; cases a <;> rfl)
theorem Buf.sv (B : Buf H w σ) (v : Int) : Go w σ H { σ with sv := v } (H.set w.b (.inst .buffer 20 w.db (setF (bufF w σ) .saved_ticks (.int v)))) :=
 B.setB (by funext a; cases a <;> rfl)
theorem Buf.gs (B : Buf H w σ) (v : Int) : Go w σ H { σ with gs := v } (H.set w.g (.inst .gap 4 w.dg (setF (gapF w σ) .gap_start (.int v)))) :=
 B.setG (by funext a; cases a <;> rfl)
theorem Buf.ge (B : Buf H w σ) (v : Int) : Go w σ H { σ with ge := v } (H.set w.g (.inst .gap 4 w.dg (setF (gapF w σ) .gap_end (.int v)))) :=
 B.setG (by funext a; cases a <;> rfl)
theorem Buf.pb (B : Buf H w σ) (un : σ.un = true) (v : Option Int) : Go w σ H { σ with pb := v } (H.set w.u (.inst .undolist 5 w.du (setF (ulF σ) .point_before (oi v)))) :=
 B.setU un (by funext a; cases a <;> rfl)
theorem Buf.nt (B : Buf H w σ) (un : σ.un = true) (v : Option Int) : Go w σ H { σ with nt := v } (H.set w.u (.inst .undolist 5 w.du (setF (ulF σ) .noted_tick (oi v)))) :=
 B.setU un (by funext a; cases a <;> rfl)
theorem Buf.nrows (B : Buf H w σ) (un : σ.un = true) {x : Addr} (rows : List Row) (hx : H x = none) : Go w σ H { σ with ul := x,rows := rows } ((H.set x (.list (rows.map Row.av))).set w.u (.inst .undolist 5 w.du (setF (ulF σ) .rows (.ref x)))) :=
 B.setR un hx (by funext a; cases a <;> rfl)
theorem Buf.pos (B : Buf H w σ) {l₁ l₂ : List Mk} {r : Mk} (hm : σ.ms = l₁ ++ r :: l₂) (p : Int) : Go w σ H { σ with ms := l₁ ++ { r with pos := p } :: l₂ } (H.set r.k (.inst .marker 4 r.dk (setF (mkF r) .position (.int p)))) :=
 B.setK hm (by funext a; cases a <;> rfl)
@[simp] theorem oi_none : oi none = .none := rfl
@[simp] theorem oi_some (i : Int) : oi (some i) = .int i := rfl
@[simp] theorem nth_0 (a : AV) (l : List AV) : nth (a :: l) 0 = some a := rfl
@[simp] theorem nth_1 (a b : AV) (l : List AV) : nth (a :: b :: l) 1 = some b := rfl
@[simp] theorem nth_2 (a b c : AV) (l : List AV) : nth (a :: b :: c :: l) 2 = some c := rfl
@[simp] theorem nth_3 (a b c d : AV) (l : List AV) : nth (a :: b :: c :: d :: l) 3 = some d := rfl
@[simp] theorem row_eq (H : AHeap) (r : Row) : cmpv H .eq r.av (.tup [.str .boundary]) = some r.isB := by cases r <;> rfl
@[simp] theorem row_ne (H : AHeap) (r : Row) : cmpv H .ne r.av (.tup [.str .boundary]) = some (!r.isB) := by cases r <;> rfl
theorem enter (C : Calls call) {f : Fn} {args as : List AV} {b : List MS} (ha : args ++ dflOf f = as) (hb : bodyOf f = b) (hl : args.length + (dflOf f).length = arity f)
   (h : mSs (call n) b (argL as) H (λ mf _ H' => match mf with | .next => Q .none H' | .ret v => Q v H')) : call (n + 1) f args H Q := by
 subst ha hb
 exact C _ _ _ _ _ hl h
theorem c_touch (C : Calls call) (B : Buf H w σ) (h : ∀ H',Go w σ H { σ with tk := σ.tk + 1,ct := σ.tk + 1 } H' → Q .none H') : call (n + 1) .buf_touch [.ref w.b,.bool true] H Q := by
 refine enter C (as := [_,_]) (b := b_buf_touch) rfl rfl rfl ?_
 have hb := B.b
 refine s_setAttr (u := .int (σ.tk + 1)) (x := w.b) (by simp [*]) (by rfl) hb rfl (by decide) rfl ?_
 have G := B.tk (σ.tk + 1)
 generalize H.set _ _ = H1 at G ⊢
 have hb := G.buf.b
 refine s_iteT (by rfl) (s_setAttr (u := .int (σ.tk + 1)) (x := w.b) (by simp [*]) (by rfl) hb rfl (by decide) rfl ?_)
 exact h _ (G.trans (G.buf.ct (σ.tk + 1)))
end
section
variable {H : AHeap} {ρ : Locals} {e a b : ME} {es : List ME} {x : Addr} {u v z : AV} {i j : Int}
theorem v_at {f : At} {C : Cl} {k : Nat} {d : Addr} {F : At → Option AV} (h1 : ev H ρ e = some (.ref x)) (h2 : H x = some (.inst C k d F)) (h3 : (if isField C f = true then F f else none) = some v) : ev H ρ (.attr e f) = some v := by
 refine (?_ : (match ev H ρ e with
   | some (.ref x) => (match H x with | some (.inst C _ _ F) => if isField C f = true then F f else none | _ => none)
   | _ => none) = some v)
 rw [h1]; refine (?_ : (match H x with | some (.inst C _ _ F) => if isField C f = true then F f else none | _ => none) = some v); rw [h2]; exact h3
theorem v_len {xs : List AV} (h1 : ev H ρ e = some (.ref x)) (h2 : H x = some (.list xs)) (h3 : xs.length ≤ lim) : ev H ρ (.len e) = some (.int xs.length) := by
 refine (?_ : (match ev H ρ e with
   | some (.ref x) => (match H x with | some (.list xs) => if xs.length ≤ lim then some (AV.int xs.length) else none | _ => none)
   | _ => none) = _)
 rw [h1]; refine (?_ : (match H x with | some (.list xs) => if xs.length ≤ lim then some (AV.int xs.length) else none | _ => none) = _); rw [h2]; exact if_pos h3
theorem v_bin {op : Bop} (h1 : ev H ρ a = some u) (h2 : ev H ρ b = some v) (h3 : opv op u v = some z) : ev H ρ (.bin op a b) = some z := by
 refine (?_ : (match ev H ρ a,ev H ρ b with | some u,some v => opv op u v | _,_ => none) = _); rw [h1,h2]; exact h3
theorem v_idx (h1 : ev H ρ a = some u) (h2 : ev H ρ b = some v) (h3 : idxv H u v = some z) : ev H ρ (.idx a b) = some z := by
 refine (?_ : (match ev H ρ a,ev H ρ b with | some u,some v => idxv H u v | _,_ => none) = _); rw [h1,h2]; exact h3
theorem v_cmp {op : Cop} {r : Bool} (h1 : ev H ρ a = some u) (h2 : ev H ρ b = some v) (h3 : cmpv H op u v = some r) : ev H ρ (.cmp op a b) = some (.bool r) := by
 refine (?_ : (match ev H ρ a,ev H ρ b with | some u,some v => (cmpv H op u v).map AV.bool | _,_ => none) = _); rw [h1,h2]; exact congrArg (Option.map AV.bool) h3
theorem v_min (h1 : ev H ρ a = some (.int i)) (h2 : ev H ρ b = some (.int j)) : ev H ρ (.min a b) = some (.int (min i j)) := by
 refine (?_ : (match ev H ρ a,ev H ρ b with | some (.int x),some (.int y) => some (AV.int (min x y)) | _,_ => none) = _); rw [h1,h2]
theorem v_max (h1 : ev H ρ a = some (.int i)) (h2 : ev H ρ b = some (.int j)) : ev H ρ (.max a b) = some (.int (max i j)) := by
 refine (?_ : (match ev H ρ a,ev H ρ b with | some (.int x),some (.int y) => some (AV.int (max x y)) | _,_ => none) = _); rw [h1,h2]
theorem v_cons {vs : List AV} (h1 : ev H ρ e = some v) (h2 : evs H ρ es = some vs) : evs H ρ (e :: es) = some (v :: vs) := by
 refine (?_ : (match ev H ρ e,evs H ρ es with | some v,some vs => some (v :: vs) | _,_ => none) = _); rw [h1,h2]
theorem v_tup {vs : List AV} (h : evs H ρ es = some vs) : ev H ρ (.tup es) = some (.tup vs) := congrArg (Option.map AV.tup) h
theorem w_cmp {op : Cop} {r : Bool} (h1 : ev H ρ a = some u) (h2 : ev H ρ b = some v) (h3 : cmpv H op u v = some r) : evT H ρ (.cmp op a b) = some r := by
 refine (?_ : (match ev H ρ (.cmp op a b) with | some (.bool b) => some b | _ => none) = _); rw [v_cmp h1 h2 h3]
theorem w_at {f : At} {r : Bool} (h : ev H ρ (.attr e f) = some (.bool r)) : evT H ρ (.attr e f) = some r := by
 refine (?_ : (match ev H ρ (.attr e f) with | some (.bool b) => some b | _ => none) = _); rw [h]
theorem w_not {r : Bool} (h : evT H ρ e = some r) : evT H ρ (.not e) = some (!r) := congrArg (Option.map (!·)) h
theorem w_and {r : Bool} (h : evA H ρ true es = some r) : evT H ρ (.and es) = some r := h
theorem w_or {r : Bool} (h : evA H ρ false es = some r) : evT H ρ (.or es) = some r := h
theorem w_go {c r : Bool} (h : evT H ρ e = some c) (k : evA H ρ c es = some r) : evA H ρ c (e :: es) = some r := by
 refine (?_ : (match evT H ρ e with | some b => if b = c then evA H ρ c es else some b | none => none) = _); rw [h]; exact (if_pos rfl).trans k
theorem w_no {c r : Bool} (h : evT H ρ e = some r) (n : Bool.xor r c = true) : evA H ρ c (e :: es) = some r := by
 refine (?_ : (match evT H ρ e with | some b => if b = c then evA H ρ c es else some b | none => none) = _); rw [h]; exact if_neg λ z => by subst z; cases r <;> cases n
theorem w_yes {p : Prop} [Decidable p] (h : p) : some (decide p) = some true := congrArg some (decide_eq_true h)
theorem w_nay {p : Prop} [Decidable p] (h : ¬ p) : some (decide p) = some false := congrArg some (decide_eq_false h)
theorem vi {o : Option AV} (h : o = some (.int i)) (k : i = j) : o = some (.int j) := by subst k; exact h
theorem wt {o : Option Bool} {p : Prop} [Decidable p] (h : o = some (decide p)) (k : p) : o = some true := h.trans (w_yes k)
theorem wf {o : Option Bool} {p : Prop} [Decidable p] (h : o = some (decide p)) (k : ¬ p) : o = some false := h.trans (w_nay k)
theorem wq {o : Option Bool} {b c : Bool} (h : o = some b) (k : b = c) : o = some c := by subst k; exact h
theorem w_nT (h : evT H ρ e = some true) : evT H ρ (.not e) = some false := w_not h
theorem w_nF (h : evT H ρ e = some false) : evT H ρ (.not e) = some true := w_not h
theorem w_ix {r : Bool} (h : ev H ρ (.idx a b) = some (.bool r)) : evT H ρ (.idx a b) = some r := by
 refine (?_ : (match ev H ρ (.idx a b) with | some (.bool b) => some b | _ => none) = _); rw [h]
theorem w_v {k : Nat} {r : Bool} (h : ρ k = some (.bool r)) : evT H ρ (.var k) = some r := by
 refine (?_ : (match ρ k with | some (.bool b) => some b | _ => none) = _); rw [h]
theorem v_ln {xs : List AV} {k : Nat} (h1 : ev H ρ e = some (.ref x)) (h2 : H x = some (.list xs)) (l : xs.length = k) (h3 : k ≤ lim) : ev H ρ (.len e) = some (.int k) := by
 subst l; exact v_len h1 h2 h3
theorem v_idl {xs : List AV} (h1 : ev H ρ a = some (.ref x)) (h2 : ev H ρ b = some (.int i)) (h3 : H x = some (.list xs)) (h4 : nth xs i = some z) : ev H ρ (.idx a b) = some z := by
 refine v_idx h1 h2 ?_
 refine (?_ : (match H x with | some (.list xs) => nth xs i | some (.idict es) => keyOf es i | _ => none) = _); rw [h3]; exact h4
theorem v_idd {xs : List (Int × AV)} (h1 : ev H ρ a = some (.ref x)) (h2 : ev H ρ b = some (.int i)) (h3 : H x = some (.idict xs)) (h4 : keyOf xs i = some z) : ev H ρ (.idx a b) = some z := by
 refine v_idx h1 h2 ?_
 refine (?_ : (match H x with | some (.list xs) => nth xs i | some (.idict es) => keyOf es i | _ => none) = _); rw [h3]; exact h4
end

end P_C3

section P_C4
open PySem

section
variable {call : Nat → Fn → List AV → AHeap → (AV → AHeap → Prop) → Prop} {n : Nat} {H : AHeap} {w : Wh} {σ : Sg} {Q : AV → AHeap → Prop}
theorem c_goto (C : Calls call) (B : Buf H w σ) {p : Int} (h : ∀ H',Go w σ H { σ with pt := min (max p 1) σ.zv } H' → Q (.int (min (max p 1) σ.zv)) H') : call (n + 1) .buf_goto [.ref w.b,.int p] H Q := by
 refine enter C (as := [_,_]) (b := b_buf_goto) rfl rfl rfl ?_
 have hb := B.b
 refine s_setAttr (u := .int (min (max p 1) σ.zv)) (x := w.b) (v_min (v_max rfl (v_at rfl hb rfl)) (v_at rfl hb rfl)) (by rfl) hb rfl (by decide) rfl ?_
 have G := B.pt (min (max p 1) σ.zv)
 generalize H.set _ _ = H1 at G ⊢
 have hb := G.buf.b
 exact s_ret (v := .int (min (max p 1) σ.zv)) (v_at rfl hb rfl) (h _ G)
theorem c_is_modified (C : Calls call) (B : Buf H w σ) (h : Q (.bool (decide (σ.sv < σ.tk))) H) : call (n + 1) .buf_is_modified [.ref w.b] H Q := by
 refine enter C (as := [_]) (b := b_buf_is_modified) rfl rfl rfl ?_
 have hb := B.b
 exact s_ret (v := .bool (decide (σ.sv < σ.tk))) (v_cmp (v_at rfl hb rfl) (v_at rfl hb rfl) rfl) h
theorem c_set_modified (C : Calls call) (B : Buf H w σ) (h : ∀ H',Go w σ H { σ with sv := σ.tk } H' → Q .none H') : call (n + 1) .buf_set_modified [.ref w.b,.bool false] H Q := by
 refine enter C (as := [_,_]) (b := b_buf_set_modified) rfl rfl rfl ?_
 have hb := B.b
 refine s_iteT (by rfl) (s_setAttr (u := .int σ.tk) (x := w.b) (v_at rfl hb rfl) (by rfl) hb rfl (by decide) rfl ?_)
 exact h _ (B.sv σ.tk)
theorem c_need_writable (C : Calls call) (B : Buf H w σ) (h : Q .none H) : call (n + 1) .need_writable [.ref w.b] H Q := by
 refine enter C (as := [_]) (b := b_need_writable) rfl rfl rfl ?_
 have hb := B.b
 exact s_skip (w_at (v_at rfl hb rfl)) h
theorem c_need_visible (C : Calls call) (B : Buf H w σ) {p q : Int} (hp : 1 ≤ p) (hq : q ≤ σ.zv) (h : Q .none H) : call (n + 1) .need_visible [.ref w.b,.int p,.int q] H Q := by
 refine enter C (as := [_,_,_]) (b := b_need_visible) rfl rfl rfl ?_
 have hb := B.b
 have h1 : ¬ p < 1 := by exact (ar (.i (.L K1 Z0) (.i (.T Z0 K1) .f)) 1 [] [_]) hp
 have h2 : ¬ σ.zv < q := by exact (ar (.i (.L Z0 Z1) (.i (.T Z1 Z0) .f)) 2 [] [_,_]) hq
 exact s_skip (w_or (w_go (wf (w_cmp rfl (v_at rfl hb rfl) rfl) h1) (w_go (wf (w_cmp rfl (v_at rfl hb rfl) rfl) h2) rfl))) h
theorem c_reached (C : Calls call) (B : Buf H w σ) {p q : Int} (hp : 1 ≤ min p q) (hq : max p q ≤ σ.zv) (h : Q (.tup [.int (min p q),.int (max p q)]) H) : call (n + 1) .reached [.ref w.b,.int p,.int q] H Q := by
 refine enter C (as := [_,_,_]) (b := b_reached) rfl rfl rfl ?_
 have hb := B.b
 have h1 : ¬ min p q < 1 := by exact (ar (.i (.L K1 (.i Z0 Z1)) (.i (.T (.i Z0 Z1) K1) .f)) 2 [] [_,_]) hp
 have h2 : ¬ σ.zv < max p q := by exact (ar (.i (.L (.o Z0 Z1) Z2) (.i (.T Z2 (.o Z0 Z1)) .f)) 3 [] [_,_,_]) hq
 refine s_assignN (vs := [.int (min p q),.int (max p q)]) (by rfl) rfl ?_
 refine s_skip (w_or (w_go (wf (w_cmp rfl (v_at rfl hb rfl) rfl) h1) (w_go (wf (w_cmp rfl (v_at rfl hb rfl) rfl) h2) rfl))) ?_
 exact s_ret (v := .tup [.int (min p q),.int (max p q)]) (by rfl) h
theorem c_tell_ahead (C : Calls call) (B : Buf H w σ) {p q : AV} (h : ∀ H',Go w σ H σ H' → Q .none H') : call (n + 1) .tell_ahead [.ref w.b,p,q] H Q := by
 refine enter C (as := [_,_,_]) (b := b_tell_ahead) rfl rfl rfl ?_
 have hb := B.b
 have hl := B.ls
 refine s_forE (e_list (y := w.ls) (xs := []) (v_at rfl hb rfl) hl (by decide) λ x hx => ?_)
 exact for_at at_self (h _ (Go.new B hx))
theorem c_tell_behind (C : Calls call) (B : Buf H w σ) {p q r : AV} (h : ∀ H',Go w σ H { σ with tk := σ.tk + 1,ct := σ.tk + 1 } H' → Q .none H') : call (n + 2) .tell_behind [.ref w.b,p,q,r] H Q := by
 refine enter C (as := [_,_,_,_]) (b := b_tell_behind) rfl rfl rfl ?_
 have hb := B.b
 refine s_expr (e_meth (x := w.b) (by rfl) hb rfl rfl (vs := [.bool true]) (by rfl) (c_touch C B λ H1 G => ?_))
 have hb := G.buf.b
 have hl := G.buf.ls
 refine s_forE (e_list (y := w.ls) (xs := []) (v_at rfl hb rfl) hl (by decide) λ x hx => ?_)
 exact for_at at_self (h _ (G.trans (Go.new G.buf hx)))
theorem c_hung_out (C : Calls call) (B : Buf H w σ) {p q : AV} (h : Q .none H) : call (n + 1) .hung_out [.ref w.b,p,q] H Q := by
 refine enter C (as := [_,_,_]) (b := b_hung_out) rfl rfl rfl ?_
 have hb := B.b
 exact s_skip (w_cmp (v_at rfl hb rfl) rfl rfl) (s_skip (w_cmp (v_at rfl hb rfl) rfl rfl) h)
theorem c_hung_in (C : Calls call) (B : Buf H w σ) {p q r : AV} (h : Q .none H) : call (n + 1) .hung_in [.ref w.b,p,q,r] H Q := by
 refine enter C (as := [_,_,_,_]) (b := b_hung_in) rfl rfl rfl ?_
 have hb := B.b
 exact s_skip (w_cmp (v_at rfl hb rfl) rfl rfl) (s_skip (w_cmp (v_at rfl hb rfl) rfl rfl) h)
theorem c_gap_size (C : Calls call) (B : Buf H w σ) (hs : σ.cells.length ≤ lim) (h : Q (.int (σ.cells.length - σ.ge + σ.gs)) H) : call (n + 1) .gap_size [.ref w.g] H Q := by
 refine enter C (as := [_]) (b := b_gap_size) rfl rfl rfl ?_
 have hg := B.g
 have hc := B.cl
 exact s_ret (v := .int (σ.cells.length - σ.ge + σ.gs)) (v_bin (v_bin (v_len (v_at rfl hg rfl) hc hs) (v_at rfl hg rfl) rfl) (v_at rfl hg rfl) rfl) h
theorem c_size (C : Calls call) (B : Buf H w σ) (hs : σ.cells.length ≤ lim) (h : Q (.int (σ.cells.length - σ.ge + σ.gs)) H) : call (n + 2) .buf_size [.ref w.b] H Q := by
 refine enter C (as := [_]) (b := b_buf_size) rfl rfl rfl ?_
 have hb := B.b
 have hg := B.g
 exact s_retE (e_meth (x := w.g) (v_at rfl hb rfl) hg rfl rfl (vs := []) (by rfl) (c_gap_size C B hs h))
end

end P_C4

section P_C5
open PySem

noncomputable abbrev il (l : List Int) : List AV := l.map .int
structure Rep (σ : Sg) (P : List Int) (G : List AV) (T : List Int) : Prop where
 cells : σ.cells = il P ++ G ++ il T
 gs : σ.gs = P.length
 ge : σ.ge = P.length + G.length
 sz : σ.cells.length ≤ 2000
noncomputable def Txt (σ : Sg) (t : List Int) : Prop := ∃ P G T,Rep σ P G T ∧ t = P ++ T
noncomputable def Sg.gap (σ : Sg) (c : List AV) (a e : Int) : Sg := { σ with cells := c,gs := a,ge := e }
section
variable {α : Type} {P G T : List α} {s e : Nat}
theorem cut1 (h : e ≤ P.length) : ((P ++ G ++ T).take e).drop s = ((P ++ T).take e).drop s := by
 rw [List.append_assoc,List.take_append_of_le_length h,List.take_append_of_le_length h]
theorem cut2 (h : P.length ≤ s) : ((P ++ G ++ T).take (e + G.length)).drop (s + G.length) = ((P ++ T).take e).drop s := by
 apply List.ext_getElem?
 intro i
 simp only [List.getElem?_drop,List.getElem?_take,List.getElem?_append,List.length_append]
 repeat' split
 all_goals first | rfl | (exfalso; (first | exact (ar (.i (.l N0 N1) (.i (.t (.a (.a N1 N2) N3) (.a N0 N2)) .f)) 4 [_,_,_,_] []) h (by assumption) | exact (ar (.i (.t (.a (.a N0 N1) N2) (.a N3 N1)) (.i (.i (.t (.a N0 N2) N3) .f) .f)) 4 [_,_,_,_] []) (by assumption) (by assumption) | exact (ar (.i (.t (.a N0 N1) N2) (.i (.i (.t (.a (.a N0 N3) N1) (.a N2 N3)) .f) .f)) 4 [_,_,_,_] []) (by assumption) (by assumption))) | (congr 1; (first | exact (ar (.e (.s (.a (.a (.n 0) (.n 1)) (.n 2)) (.a (.n 3) (.n 1))) (.s (.a (.n 0) (.n 2)) (.n 3))) 4 [_,_,_,_] []) | omega))
theorem cut3 (h1 : s ≤ P.length) (h2 : P.length ≤ e) : ((P ++ G ++ T).take P.length).drop s ++ ((P ++ G ++ T).take (e + G.length)).drop (P.length + G.length) = ((P ++ T).take e).drop s := by
 have h3 := cut2 (P := P) (G := G) (T := T) (s := P.length) (e := e) (Nat.le_refl _)
 rw [h3,List.append_assoc,List.take_append_of_le_length (Nat.le_refl _),List.take_of_length_le (Nat.le_refl _)]
 rw [List.take_append,List.take_of_length_le h2,List.drop_append,List.drop_append,List.drop_of_length_le (Nat.le_refl _),show s - P.length = 0 by exact (ar (.i (.l N0 N1) (.e (.s N0 N1) K0)) 2 [_,_] []) h1,show P.length - P.length = 0 by exact ar (.e (.s N0 N0) K0) 1 [_] []]
 simp
end
section
variable {call : Nat → Fn → List AV → AHeap → (AV → AHeap → Prop) → Prop} {n : Nat} {H : AHeap} {w : Wh} {σ : Sg} {Q : AV → AHeap → Prop} {t : List Int}
theorem il_take (l : List Int) (k : Nat) : (il l).take k = il (l.take k) := (List.map_take ..).symm
theorem il_drop (l : List Int) (k : Nat) : (il l).drop k = il (l.drop k) := (List.map_drop ..).symm
theorem il_append (l m : List Int) : il l ++ il m = il (l ++ m) := (List.map_append ..).symm
theorem il_length (l : List Int) : (il l).length = l.length := List.length_map ..
theorem Rep.len {P T : List Int} {G : List AV} (R : Rep σ P G T) : σ.cells.length = P.length + G.length + T.length := by
 rw [R.cells]; simp; exact ar (.e (.a N0 (.a N1 N2)) (.a (.a N0 N1) N2)) 3 [_,_,_] []
theorem Txt.len (X : Txt σ t) : (σ.cells.length : Int) - σ.ge + σ.gs = t.length := by
 obtain ⟨P,G,T,R,rfl⟩ := X
 rw [R.len,R.ge,R.gs,List.length_append]; exact ar (.E (.a (.s (.u (.a (.a N0 N1) N2)) (.a (.u N0) (.u N1))) (.u N0)) (.u (.a N0 N2))) 3 [_,_,_] []
theorem Txt.sz (X : Txt σ t) : σ.cells.length ≤ 2000 := let ⟨_,_,_,R,_⟩ := X; R.sz
theorem lim_of {k : Nat} (h : k ≤ 2000) : k ≤ lim := Nat.le_trans h (by decide)
theorem c_gap_codes (C : Calls call) (B : Buf H w σ) (X : Txt σ t) {s e : Int} (h0 : 0 ≤ s) (h1 : s ≤ e) (h2 : e ≤ t.length)
   (h : ∀ x H',H x = none → Go w σ H σ H' → H' x = some (.list (il ((t.take e.toNat).drop s.toNat))) → ¬ Ow w σ x → Q (.ref x) H') : call (n + 1) .gap_codes [.ref w.g,.int s,.int e] H Q := by
 obtain ⟨P,G,T,R,rfl⟩ := X
 refine enter C (as := [_,_,_]) (b := b_gap_codes) rfl rfl rfl ?_
 have hg := B.g
 have hc := B.cl
 have e1 := R.gs
 have e2 := R.ge
 have hcells := R.cells
 have hlen := R.len
 have hsz := lim_of R.sz
 obtain ⟨a,rfl⟩ := Int.eq_ofNat_of_zero_le h0
 obtain ⟨b,rfl⟩ := Int.eq_ofNat_of_zero_le (by exact (ar (.i (.L (.u N0) Z0) (.L K0 Z0)) 1 [_] [_]) h1 : 0 ≤ e)
 refine s_assign (v := .int (σ.ge - σ.gs)) (v_bin (v_at rfl hg rfl) (v_at rfl hg rfl) rfl) ?_
 have tx : il ((List.take b (P ++ T)).drop a) = ((il P ++ il T).take b).drop a := by rw [il_append,il_take,il_drop]
 have done : ∀ x,H x = none → (∀ l,l = il ((List.take b (P ++ T)).drop a) → Q (.ref x) (H.set x (.list l))) := λ x hx l hl => by
   subst hl
   exact h x _ hx (Go.new B hx) at_self (B.new hx)
 refine s_ite (p := decide ((b : Int) ≤ σ.gs)) (w_cmp rfl (v_at rfl hg rfl) rfl) (λ hp => ?_) (λ hp => ?_)
 · have hp : (b : Int) ≤ σ.gs := of_decide_eq_true hp
   refine s_retE (e_slice (y := w.cl) (i := (a : Int)) (j := (b : Int)) (v_at rfl hg rfl) (by rfl) (by rfl) hc (by exact ar (.L K0 (.u N0)) 1 [_] []) (by exact ar (.L K0 (.u N0)) 1 [_] []) hsz λ x hx => done x hx _ ?_)
   rw [tx,hcells]
   exact cut1 (by rw [il_length]; exact (ar (.i (.E Z0 (.u N0)) (.i (.L (.u N1) Z0) (.l (.t (.u N1)) N0))) 2 [_,_] [_]) e1 hp)
 · have hp : ¬ (b : Int) ≤ σ.gs := of_decide_eq_false hp
   refine s_back (s_ite (p := decide ((a : Int) ≥ σ.gs)) (w_cmp rfl (v_at rfl hg rfl) rfl) (λ hq => ?_) (λ hq => ?_))
   · have hq : (a : Int) ≥ σ.gs := of_decide_eq_true hq
     refine s_retE (e_slice (y := w.cl) (i := ((a + G.length : Nat) : Int)) (j := ((b + G.length : Nat) : Int)) (v_at rfl hg rfl) (vi (v_bin rfl rfl rfl) (by exact (ar (.i (.E (.z 0) (.a (.u (.n 0)) (.u (.n 1)))) (.i (.E (.z 1) (.u (.n 0))) (.E (.a (.u (.n 2)) (.s (.z 0) (.z 1))) (.u (.a (.n 2) (.n 1)))))) 3 [_,_,_] [_,_]) e2 e1)) (vi (v_bin rfl rfl rfl) (by exact (ar (.i (.E (.z 0) (.a (.u (.n 0)) (.u (.n 1)))) (.i (.E (.z 1) (.u (.n 0))) (.E (.a (.u (.n 2)) (.s (.z 0) (.z 1))) (.u (.a (.n 2) (.n 1)))))) 3 [_,_,_] [_,_]) e2 e1)) hc (by exact ar (.L K0 (.u (.a N0 N1))) 2 [_,_] []) (by exact ar (.L K0 (.u (.a N0 N1))) 2 [_,_] []) hsz λ x hx => done x hx _ ?_)
     rw [tx,hcells]
     exact cut2 (by rw [il_length]; exact (ar (.i (.E Z0 (.u N0)) (.i (.L Z0 (.u N1)) (.l N0 N1))) 2 [_,_] [_]) e1 hq)
   · have hq : ¬ (a : Int) ≥ σ.gs := of_decide_eq_false hq
     refine s_back (s_retE (e_bin ?_))
     refine e_slice (y := w.cl) (i := (a : Int)) (j := ((P.length : Nat) : Int)) (v_at rfl hg rfl) (by rfl) (vi (v_at rfl hg rfl) e1) hc (by exact ar (.L K0 (.u N0)) 1 [_] []) (by exact ar (.L K0 (.u N0)) 1 [_] []) hsz λ x hx => ?_
     have G1 := Go.new (o := .list ((σ.cells.take P.length).drop a)) B hx
     have hg1 := G1.buf.g
     have hc1 := G1.buf.cl
     have hx1 : (H.set x (.list ((σ.cells.take P.length).drop a))) x = some _ := at_self
     have G1' := G1
     simp only [Int.toNat_natCast] at G1 ⊢
     generalize (H.set x (.list ((σ.cells.take P.length).drop a))) = H1 at *
     refine e_slice (y := w.cl) (i := ((P.length + G.length : Nat) : Int)) (j := ((b + G.length : Nat) : Int)) (v_at rfl G1'.buf.g rfl) (vi (v_at rfl G1'.buf.g rfl) (by exact (ar (.i (.E (.z 0) (.a (.u (.n 0)) (.u (.n 1)))) (.E (.z 0) (.u (.a (.n 0) (.n 1))))) 2 [_,_] [_]) e2)) (vi (v_bin rfl rfl rfl) (by exact (ar (.i (.E (.z 0) (.a (.u (.n 0)) (.u (.n 1)))) (.i (.E (.z 1) (.u (.n 0))) (.E (.a (.u (.n 2)) (.s (.z 0) (.z 1))) (.u (.a (.n 2) (.n 1)))))) 3 [_,_,_] [_,_]) e2 e1)) hc1 (by exact ar (.L K0 (.u (.a N0 N1))) 2 [_,_] []) (by exact ar (.L K0 (.u (.a N0 N1))) 2 [_,_] []) hsz λ y hy => ?_
     have G2 := G1.trans (Go.new (o := .list ((σ.cells.take (b + G.length)).drop (P.length + G.length))) G1.buf hy)
     have hxy : x ≠ y := λ z => by rw [z,hy] at hx1; exact nn hx1
     simp only [Int.toNat_natCast]
     refine cat_ok (at_other hx1 hxy) at_self ?_ λ z hz => ?_
     · simp only [List.length_drop,List.length_take]; unfold lim; have := R.sz; exact (ar (.i (.l N0 (.k 2000)) (.l (.a (.s (.i N1 N0) N2) (.s (.i (.a N3 N4) N0) (.a N1 N4))) KM)) 5 [_,_,_,_,_] []) this
     · have hzx : H z = none := by
         cases q : H z with
         | none => rfl
         | some o =>
           have nz : ¬ Ow w σ z := λ o => by obtain ⟨u,e⟩ := G2.buf.live o; rw [hz] at e; exact nn e
           have := (G2.ext z o q nz).1; rw [hz] at this; exact nn this
       have G3 := G2.trans (Go.new (o := .list ((σ.cells.take P.length).drop a ++ (σ.cells.take (b + G.length)).drop (P.length + G.length))) G2.buf hz)
       refine h z _ hzx G3 ?_ (G2.buf.new hz)
       rw [at_self]
       congr 2
       refine (?_ : _ = il ((List.take b (P ++ T)).drop a))
       rw [tx,hcells]
       have := cut3 (P := il P) (G := G) (T := il T) (s := a) (e := b) (by rw [il_length]; exact (ar (.i (.E Z0 (.u N0)) (.i (.i (.L Z0 (.u N1)) .f) (.l N1 N0))) 2 [_,_] [_]) e1 hq) (by rw [il_length]; exact (ar (.i (.E Z0 (.u N0)) (.i (.i (.L (.u N1) Z0) .f) (.l N0 N1))) 2 [_,_] [_]) e1 hp)
       rw [il_length] at this
       exact this
end

end P_C5

section P_C6
open PySem

section
variable {call : Nat → Fn → List AV → AHeap → (AV → AHeap → Prop) → Prop} {n : Nat} {H : AHeap} {w : Wh} {σ : Sg} {Q : AV → AHeap → Prop} {t : List Int}
theorem Go.gap (B : Buf H w σ) {c : List AV} : Go w σ H (σ.gap c σ.gs σ.ge) (H.set w.cl (.list c)) := B.setC
theorem s_setSliceV {call : Fn → List AV → AHeap → (AV → AHeap → Prop) → Prop} {ρ : Locals} {ss : List MS} {Q : SPost} {o lo hi e : ME} (h : mE call e ρ H λ u H₁ => mE call o ρ H₁ λ v H₂ => mE call lo ρ H₂ λ i H₃ => mE call hi ρ H₃ λ j H₄ => match u,v,i,j with
   | .ref y,.ref x,.int i,.int j => (match H₄ y,H₄ x with
     | some (.list ys),some (.list xs) => x ≠ y ∧ 0 ≤ i ∧ i ≤ j ∧ j ≤ xs.length ∧ xs.length + ys.length ≤ lim ∧ mSs call ss ρ (H₄.set x (.list (xs.take i.toNat ++ ys ++ xs.drop j.toNat))) Q
     | _,_ => False)
   | _,_,_,_ => False) : mSs call (.setSlice o lo hi e :: ss) ρ H Q := h
theorem slice_at {call : Fn → List AV → AHeap → (AV → AHeap → Prop) → Prop} {ρ : Locals} {ss : List MS} {Q : SPost} {x y : Addr} {i j : Int} {xs ys : List AV} (hy : H y = some (.list ys)) (hx : H x = some (.list xs)) (hxy : x ≠ y) (h0 : 0 ≤ i) (hij : i ≤ j) (hj : j ≤ xs.length) (hs : xs.length + ys.length ≤ lim) (h : mSs call ss ρ (H.set x (.list (xs.take i.toNat ++ ys ++ xs.drop j.toNat))) Q) :
   (match (AV.ref y),(AV.ref x),(AV.int i),(AV.int j) with
   | .ref y,.ref x,.int i,.int j => (match H y,H x with
     | some (.list ys),some (.list xs) => x ≠ y ∧ 0 ≤ i ∧ i ≤ j ∧ j ≤ xs.length ∧ xs.length + ys.length ≤ lim ∧ mSs call ss ρ (H.set x (.list (xs.take i.toNat ++ ys ++ xs.drop j.toNat))) Q
     | _,_ => False)
   | _,_,_,_ => False) := by
 refine (?_ : (match H y,H x with
     | some (.list ys),some (.list xs) => x ≠ y ∧ 0 ≤ i ∧ i ≤ j ∧ j ≤ xs.length ∧ xs.length + ys.length ≤ lim ∧ mSs call ss ρ (H.set x (.list (xs.take i.toNat ++ ys ++ xs.drop j.toNat))) Q
     | _,_ => False))
 rw [hy,hx]; exact ⟨hxy,h0,hij,hj,hs,h⟩
theorem c_gap_move (C : Calls call) {P T : List Int} {G : List AV} (B : Buf H w σ) (R : Rep σ P G T) {a : Int} (h0 : 0 ≤ a) (h1 : a ≤ (P ++ T).length)
   (h : ∀ H' c s e P' G' T',Rep (σ.gap c s e) P' G' T' → P' ++ T' = P ++ T → (P'.length : Int) = a → G'.length = G.length → Go w σ H (σ.gap c s e) H' → Q .none H') : call (n + 1) .gap_move [.ref w.g,.int a] H Q := by
 refine enter C (as := [_,_]) (b := b_gap_move) rfl rfl rfl ?_
 have hg := B.g
 have hc := B.cl
 have e1 := R.gs
 have e2 := R.ge
 have hlen := R.len
 have hsz := lim_of R.sz
 have hsz2 := R.sz
 obtain ⟨k,rfl⟩ := Int.eq_ofNat_of_zero_le h0
 rw [List.length_append] at h1
 have h1 : k ≤ P.length + T.length := by exact (ar (.i (.L (.u N0) (.u (.a N1 N2))) (.l N0 (.a N1 N2))) 3 [_,_,_] []) h1
 refine s_ite (p := decide ((k : Int) < σ.gs)) (w_cmp rfl (v_at rfl hg rfl) rfl) (λ hp => ?_) (λ hp => ?_)
 · have hp : k < P.length := by have := of_decide_eq_true hp; exact (ar (.i (.E Z0 (.u N0)) (.i (.T (.u N1) Z0) (.t N1 N0))) 2 [_,_] [_]) e1 this
   refine s_assignE (e_slice (y := w.cl) (i := (k : Int)) (j := (P.length : Int)) (v_at rfl hg rfl) (by rfl) (vi (v_at rfl hg rfl) e1) hc (by exact ar (.L K0 (.u N0)) 1 [_] []) (by exact ar (.L K0 (.u N0)) 1 [_] []) hsz λ x hx => ?_)
   simp only [Int.toNat_natCast]
   have hm : (σ.cells.take P.length).drop k = il (P.drop k) := by
     rw [R.cells,List.append_assoc,List.take_append_of_le_length (by rw [il_length]; exact ar (.l N0 N0) 1 [_] []),List.take_of_length_le (by rw [il_length]; exact ar (.l N0 N0) 1 [_] []),il_drop]
   rw [hm]
   have G1 := Go.new (o := .list (il (P.drop k))) B hx
   have hx1 : (H.set x (.list (il (P.drop k)))) x = some _ := at_self
   have hxc : w.cl ≠ x := λ z => by rw [← z,hc] at hx; exact sn hx
   generalize (H.set x (.list (il (P.drop k)))) = H1 at *
   have hg1 := G1.buf.g
   have hc1 := G1.buf.cl
   have hdl : (il (P.drop k)).length = P.length - k := by rw [il_length,List.length_drop]
   have hln : (P.length - k) + (P.length + G.length + T.length) ≤ lim := by unfold lim; exact (ar (.i (.e N0 (.a (.a N1 N2) N3)) (.i (.l N0 (.k 2000)) (.l (.a (.s N1 N4) (.a (.a N1 N2) N3)) KM))) 5 [_,_,_,_,_] []) hlen hsz2
   refine s_setSlice (x := w.cl) (y := x) (xs := σ.cells) (ys := il (P.drop k)) (i := ((k + G.length : Nat) : Int)) (j := ((P.length + G.length : Nat) : Int)) (by rfl) (v_at rfl hg1 rfl)
     (by simp [hg1,hx1,e1,e2,show P.length - k ≤ lim from by exact (ar (.i (.l (.a (.s N0 N1) (.a (.a N0 N2) N3)) N4) (.l (.s N0 N1) N4)) 5 [_,_,_,_,_] []) hln]; exact (ar (.i (.t N0 N1) (.E (.s (.a (.u N1) (.u N2)) (.u (.s N1 N0))) (.a (.u N0) (.u N2)))) 3 [_,_,_] []) hp) (vi (v_at rfl hg1 rfl) (by exact (ar (.i (.E (.z 0) (.a (.u (.n 0)) (.u (.n 1)))) (.E (.z 0) (.u (.a (.n 0) (.n 1))))) 2 [_,_] [_]) e2)) hx1 hc1 hxc (by exact ar (.L K0 (.u (.a N0 N1))) 2 [_,_] []) (by exact (ar (.i (.t N0 N1) (.L (.u (.a N0 N2)) (.u (.a N1 N2)))) 3 [_,_,_] []) hp) (by exact (ar (.i (.e N0 (.a (.a N1 N2) N3)) (.L (.u (.a N1 N2)) (.u N0))) 4 [_,_,_,_] []) hlen) (by rw [hdl,hlen]; exact (ar (.i (.l (.a (.s N0 N1) (.a (.a N0 N2) N3)) N4) (.l (.a (.a (.a N0 N2) N3) (.s N0 N1)) N4)) 5 [_,_,_,_,_] []) hln) ?_
   simp only [Int.toNat_natCast]
   have hc2 : σ.cells.take (k + G.length) ++ il (P.drop k) ++ σ.cells.drop (P.length + G.length) = il (P.take k) ++ ((il P ++ G).take (k + G.length)).drop k ++ il (P.drop k ++ T) := by
     have c1 : σ.cells.drop (P.length + G.length) = il T := by
       rw [R.cells,List.drop_append_of_le_length (by simp),List.drop_of_length_le (by simp)]; rfl
     have c2 : σ.cells.take (k + G.length) = (il P ++ G).take (k + G.length) := by
       rw [R.cells,List.take_append_of_le_length (by simp; exact (ar (.i (.t N0 N1) (.l N0 N1)) 2 [_,_] []) hp)]
     have c3 : (il P ++ G).take (k + G.length) = il (P.take k) ++ ((il P ++ G).take (k + G.length)).drop k := by
       conv => lhs; rw [← List.take_append_drop k ((il P ++ G).take (k + G.length))]
       congr 1
       rw [List.take_take,show min k (k + G.length) = k by exact ar (.e (.i N0 (.a N0 N1)) N0) 2 [_,_] [],List.take_append_of_le_length (by simp; exact (ar (.i (.t N0 N1) (.l N0 N1)) 2 [_,_] []) hp),il_take]
     rw [c1,c2]
     conv => lhs; rw [c3]
     rw [← il_append]
     simp only [List.append_assoc]
   rw [hc2]
   have hG' : (((il P ++ G).take (k + G.length)).drop k).length = G.length := by simp; exact (ar (.i (.t N0 N1) (.e (.s (.a (.i N0 N1) N2) N0) N2)) 3 [_,_,_] []) hp
   generalize ((il P ++ G).take (k + G.length)).drop k = G' at hG' ⊢
   have G2 := Go.gap G1.buf (c := il (P.take k) ++ G' ++ il (P.drop k ++ T))
   generalize H1.set w.cl _ = H2 at *
   have hg2 := G2.buf.g
   have hx2 : H2 x = some (.list (il (P.drop k))) := (G2.ext x _ hx1 (B.new hx)).1
   have hl : P.length - k ≤ lim := by exact (ar (.i (.l (.a (.s N0 N1) (.a (.a N0 N2) N3)) N4) (.l (.s N0 N1) N4)) 5 [_,_,_,_,_] []) hln
   refine s_setAttr (x := w.g) (u := .int ((k + G.length : Nat) : Int)) (by simp [hg2,hx2,Sg.gap,e2,hl]; exact (ar (.i (.t N0 N1) (.E (.s (.a (.u N1) (.u N2)) (.u (.s N1 N0))) (.a (.u N0) (.u N2)))) 3 [_,_,_] []) hp) (by rfl) hg2 rfl (by decide) rfl (s_back ?_)
   have G3 := G2.trans (G2.buf.ge ((k + G.length : Nat) : Int))
   generalize H2.set w.g _ = H3 at *
   have hg3 := G3.buf.g
   refine s_setAttr (x := w.g) (u := .int (k : Int)) (by rfl) (by rfl) hg3 rfl (by decide) rfl ?_
   have G4 := G1.trans (G3.trans (G3.buf.gs (k : Int)))
   refine h _ (il (P.take k) ++ G' ++ il (P.drop k ++ T)) k ((k + G.length : Nat) : Int) (P.take k) G' (P.drop k ++ T) ⟨rfl,by refine (?_ : (k : Int) = _); rw [List.length_take]; exact (ar (.i (.t N0 N1) (.E (.u N0) (.u (.i N0 N1)))) 2 [_,_] []) hp,by refine (?_ : ((k + G.length : Nat) : Int) = _); rw [List.length_take,hG']; exact (ar (.i (.t N0 N1) (.E (.u (.a N0 N2)) (.a (.u (.i N0 N1)) (.u N2)))) 3 [_,_,_] []) hp, ?_⟩ (by rw [← List.append_assoc,List.take_append_drop]) (by rw [List.length_take]; exact (ar (.i (.t N0 N1) (.E (.u (.i N0 N1)) (.u N0))) 2 [_,_] []) hp) hG' G4
   refine (?_ : (il (P.take k) ++ G' ++ il (P.drop k ++ T)).length ≤ 2000)
   simp only [List.length_append,il_length,List.length_take,List.length_drop,hG']; exact (ar (.i (.e N0 (.a (.a N1 N2) N3)) (.i (.l N0 (.k 2000)) (.l (.a (.a (.i N4 N1) N2) (.a (.s N1 N4) N3)) (.k 2000)))) 5 [_,_,_,_,_] []) hlen hsz2
 · have hp : P.length ≤ k := by have := of_decide_eq_false hp; exact (ar (.i (.E Z0 (.u N0)) (.i (.i (.T (.u N1) Z0) .f) (.l N0 N1))) 2 [_,_] [_]) e1 this
   refine s_assignE (e_slice (y := w.cl) (i := ((P.length + G.length : Nat) : Int)) (j := ((k + G.length : Nat) : Int)) (v_at rfl hg rfl) (vi (v_at rfl hg rfl) (by exact (ar (.i (.E (.z 0) (.a (.u (.n 0)) (.u (.n 1)))) (.E (.z 0) (.u (.a (.n 0) (.n 1))))) 2 [_,_] [_]) e2)) (vi (v_bin (v_bin (v_at rfl hg rfl) rfl rfl) (v_at rfl hg rfl) rfl) (by exact (ar (.i (.E (.z 0) (.a (.u (.n 0)) (.u (.n 1)))) (.i (.E (.z 1) (.u (.n 0))) (.E (.s (.a (.z 0) (.u (.n 2))) (.z 1)) (.u (.a (.n 2) (.n 1)))))) 3 [_,_,_] [_,_]) e2 e1)) hc (by exact ar (.L K0 (.u (.a N0 N1))) 2 [_,_] []) (by exact ar (.L K0 (.u (.a N0 N1))) 2 [_,_] []) hsz λ x hx => ?_)
   simp only [Int.toNat_natCast]
   obtain ⟨d,rfl⟩ : ∃ d,k = P.length + d := ⟨k - P.length,by exact (ar (.i (.l N0 N1) (.e N1 (.a N0 (.s N1 N0)))) 2 [_,_] []) hp⟩
   have hm : (σ.cells.take (P.length + d + G.length)).drop (P.length + G.length) = il (T.take d) := by
     rw [R.cells,List.append_assoc,← List.append_assoc,List.take_append,List.drop_append]
     rw [List.take_of_length_le (by simp <;> omega),List.drop_of_length_le (by simp)]
     simp
     rw [show P.length + d + G.length - (P.length + G.length) = d by exact ar (.e (.s (.a (.a N0 N1) N2) (.a N0 N2)) N1) 3 [_,_,_] []]
   rw [hm]
   have G1 := Go.new (o := .list (il (T.take d))) B hx
   have hx1 : (H.set x (.list (il (T.take d)))) x = some _ := at_self
   have hxc : w.cl ≠ x := λ z => by rw [← z,hc] at hx; exact sn hx
   generalize (H.set x (.list (il (T.take d)))) = H1 at *
   have hg1 := G1.buf.g
   have hc1 := G1.buf.cl
   have hd : d ≤ T.length := by exact (ar (.i (.L (.u (.a N0 N1)) (.u (.a N0 N2))) (.l N1 N2)) 3 [_,_,_] []) (by assumption)
   have hdl : (il (T.take d)).length = d := by rw [il_length,List.length_take]; exact (ar (.i (.L (.u (.a N0 N1)) (.u (.a N0 N2))) (.e (.i N1 N2) N1)) 3 [_,_,_] []) (by assumption)
   have hdl' : min d T.length = d := by exact (ar (.i (.L (.u (.a N0 N1)) (.u (.a N0 N2))) (.e (.i N1 N2) N1)) 3 [_,_,_] []) (by assumption)
   have hl : d ≤ lim := by exact (ar (.i (.e (.i N0 N1) N0) (.i (.e N2 (.a (.a N3 N4) N1)) (.i (.l N2 N5) (.l N0 N5)))) 6 [_,_,_,_,_,_] []) hdl' hlen hsz
   have hln : d + (P.length + G.length + T.length) ≤ lim := by unfold lim; exact (ar (.i (.e (.i N0 N1) N0) (.i (.e N2 (.a (.a N3 N4) N1)) (.i (.l N2 (.k 2000)) (.l (.a N0 (.a (.a N3 N4) N1)) KM)))) 5 [_,_,_,_,_] []) hdl' hlen hsz2
   refine s_setSlice (x := w.cl) (y := x) (xs := σ.cells) (ys := il (T.take d)) (i := ((P.length : Nat) : Int)) (j := ((P.length + d : Nat) : Int)) (by rfl) (v_at rfl hg1 rfl)
     (vi (v_at rfl hg1 rfl) e1) (by simp [hg1,hx1,e1,hdl',hl]) hx1 hc1 hxc (by exact ar (.L K0 (.u N0)) 1 [_] []) (by exact ar (.L (.u N0) (.u (.a N0 N1))) 2 [_,_] []) (by exact (ar (.i (.e (.i N0 N1) N0) (.i (.e N2 (.a (.a N3 N4) N1)) (.L (.u (.a N3 N0)) (.u N2)))) 5 [_,_,_,_,_] []) hdl' hlen) (by rw [hdl,hlen]; exact (ar (.i (.l (.a N0 (.a (.a N1 N2) N3)) N4) (.l (.a (.a (.a N1 N2) N3) N0) N4)) 5 [_,_,_,_,_] []) hln) ?_
   simp only [Int.toNat_natCast]
   have hG0 : (G ++ il T).drop d = (((G ++ il T).drop d).take G.length) ++ il (T.drop d) := by
     conv => lhs; rw [← List.take_append_drop G.length ((G ++ il T).drop d)]
     congr 1
     rw [List.drop_drop,← il_drop,List.drop_append,List.drop_of_length_le (by exact ar (.l N0 (.a N1 N0)) 2 [_,_] []),show d + G.length - G.length = d by exact ar (.e (.s (.a N0 N1) N1) N0) 2 [_,_] []]; rfl
   have hc2 : σ.cells.take P.length ++ il (T.take d) ++ σ.cells.drop (P.length + d) = il (P ++ T.take d) ++ ((G ++ il T).drop d).take G.length ++ il (T.drop d) := by
     have c1 : σ.cells.take P.length = il P := by
       rw [R.cells,List.append_assoc,List.take_append_of_le_length (by simp),List.take_of_length_le (by simp)]
     have c2 : σ.cells.drop (P.length + d) = (G ++ il T).drop d := by
       rw [R.cells,List.append_assoc,List.drop_append,List.drop_of_length_le (by simp)]
       simp
     rw [c1,c2,← il_append]
     simp only [List.append_assoc]
     rw [← hG0]
   rw [hc2]
   have hG' : (((G ++ il T).drop d).take G.length).length = G.length := by simp; exact (ar (.i (.e (.i N0 N1) N0) (.e (.i N2 (.s (.a N2 N1) N0)) N2)) 3 [_,_,_] []) hdl'
   generalize ((G ++ il T).drop d).take G.length = G' at hG' ⊢
   have G2 := Go.gap G1.buf (c := il (P ++ T.take d) ++ G' ++ il (T.drop d))
   generalize H1.set w.cl _ = H2 at *
   have hg2 := G2.buf.g
   have hx2 : H2 x = some (.list (il (T.take d))) := (G2.ext x _ hx1 (B.new hx)).1
   refine s_setAttr (x := w.g) (u := .int ((P.length + d + G.length : Nat) : Int)) (by simp [hg2,hx2,Sg.gap,e2,hl,hdl']; exact ar (.E (.a (.a (.u N0) (.u N1)) (.u N2)) (.a (.a (.u N0) (.u N2)) (.u N1))) 3 [_,_,_] []) (by rfl) hg2 rfl (by decide) rfl (s_back ?_)
   have G3 := G2.trans (G2.buf.ge ((P.length + d + G.length : Nat) : Int))
   generalize H2.set w.g _ = H3 at *
   have hg3 := G3.buf.g
   refine s_setAttr (x := w.g) (u := .int ((P.length + d : Nat) : Int)) (by rfl) (by rfl) hg3 rfl (by decide) rfl ?_
   have G4 := G1.trans (G3.trans (G3.buf.gs ((P.length + d : Nat) : Int)))
   refine h _ (il (P ++ T.take d) ++ G' ++ il (T.drop d)) ((P.length + d : Nat) : Int) ((P.length + d + G.length : Nat) : Int) (P ++ T.take d) G' (T.drop d) ⟨rfl,by refine (?_ : ((P.length + d : Nat) : Int) = _); simp; exact (ar (.i (.e (.i N0 N1) N0) (.E (.u N0) (.u (.i N0 N1)))) 2 [_,_] []) hdl',by refine (?_ : ((P.length + d + G.length : Nat) : Int) = _); simp [hG']; exact (ar (.i (.e (.i N0 N1) N0) (.E (.u N0) (.u (.i N0 N1)))) 2 [_,_] []) hdl', ?_⟩ (by rw [List.append_assoc,List.take_append_drop]) (by simp; exact (ar (.i (.e (.i N0 N1) N0) (.E (.u (.i N0 N1)) (.u N0))) 2 [_,_] []) hdl') hG' G4
   refine (?_ : (il (P ++ T.take d) ++ G' ++ il (T.drop d)).length ≤ 2000)
   simp only [List.length_append,il_length,List.length_take,List.length_drop,hG']; exact (ar (.i (.e N0 (.a (.a N1 N2) N3)) (.i (.l N0 (.k 2000)) (.l (.a (.a (.a N1 (.i N4 N3)) N2) (.s N3 N4)) (.k 2000)))) 5 [_,_,_,_,_] []) hlen hsz2
end

end P_C6

section P_C7
open PySem

section
variable {call : Nat → Fn → List AV → AHeap → (AV → AHeap → Prop) → Prop} {n : Nat} {H : AHeap} {w : Wh} {σ : Sg} {Q : AV → AHeap → Prop} {t : List Int}
theorem c_gap_widen (C : Calls call) {P T : List Int} {G : List AV} (B : Buf H w σ) (R : Rep σ P G T) {k : Nat} (hk : P.length + T.length + k ≤ 1000)
   (h : ∀ H' c e G',Rep (σ.gap c σ.gs e) P G' T → k ≤ G'.length → Go w σ H (σ.gap c σ.gs e) H' → Q .none H') : call (n + 1) .gap_widen [.ref w.g,.int k] H Q := by
 refine enter C (as := [_,_]) (b := b_gap_widen) rfl rfl rfl ?_
 have hg := B.g
 have hc := B.cl
 have e1 := R.gs
 have e2 := R.ge
 have hlen := R.len
 have hsz2 := R.sz
 refine s_assign (v := .int ((k : Int) - G.length)) (vi (v_bin rfl (v_bin (v_at rfl hg rfl) (v_at rfl hg rfl) rfl) rfl) (by exact (ar (.i (.E (.z 0) (.a (.u (.n 0)) (.u (.n 1)))) (.i (.E (.z 1) (.u (.n 0))) (.E (.s (.u (.n 2)) (.s (.z 0) (.z 1))) (.s (.u (.n 2)) (.u (.n 1)))))) 3 [_,_,_] [_,_]) e2 e1)) ?_
 refine s_ite (p := decide ((k : Int) - G.length > 0)) (by rfl) (λ hp => ?_) (λ hp => ?_)
 · have hp : G.length < k := by have := of_decide_eq_true hp; exact (ar (.i (.T K0 (.s (.u N0) (.u N1))) (.t N1 N0)) 2 [_,_] []) this
   obtain ⟨d,rfl⟩ : ∃ d,k = G.length + d := ⟨k - G.length,by exact (ar (.i (.t N0 N1) (.e N1 (.a N0 (.s N1 N0)))) 2 [_,_] []) hp⟩
   refine s_setSliceV (e_bin (e_lst (vs := [.int 0]) rfl λ x hx => ?_))
   have G1 := Go.new (o := .list [.int 0]) B hx
   have hx1 : (H.set x (.list [.int 0])) x = some _ := at_self
   generalize (H.set x (.list [.int 0])) = H1 at *
   have hg1 := G1.buf.g
   refine ev_ok _ (v := .int ((d + 8 : Nat) : Int)) (vi (v_bin rfl (v_at rfl hg1 rfl) rfl) (by exact (ar (.E (.a (.s (.u (.a (.n 0) (.n 1))) (.u (.n 0))) (.k 8)) (.u (.a (.n 1) (.k 8)))) 2 [_,_] []))) (rep_ok (k := ((d + 8 : Nat) : Int)) hx1 (by exact ar (.L K0 (.u (.a N0 K8))) 1 [_] []) (by unfold lim; exact (ar (.i (.l (.a (.a N0 N1) (.a N2 N3)) KK) (.L (.u (.a N3 K8)) (.u KM))) 4 [_,_,_,_] []) hk) λ y hy => ?_)
   simp only [Int.toNat_natCast]
   have G2 := Go.new (o := .list (List.replicate (d + 8) (.int 0))) G1.buf hy
   have hy2 : (H1.set y (.list (List.replicate (d + 8) (.int 0)))) y = some _ := at_self
   have hyc : w.cl ≠ y := λ z => by rw [← z,G1.buf.cl] at hy; exact sn hy
   generalize (H1.set y (.list (List.replicate (d + 8) (.int 0)))) = H2 at *
   have hg2 := G2.buf.g
   refine ev_ok _ (v := .ref w.cl) (v_at rfl hg2 rfl) (ev_ok _ (v := .int ((P.length + G.length : Nat) : Int)) (vi (v_at rfl hg2 rfl) (by exact (ar (.i (.E (.z 0) (.a (.u (.n 0)) (.u (.n 1)))) (.E (.z 0) (.u (.a (.n 0) (.n 1))))) 2 [_,_] [_]) e2)) (ev_ok _ (v := .int ((P.length + G.length : Nat) : Int)) (vi (v_at rfl hg2 rfl) (by exact (ar (.i (.E (.z 0) (.a (.u (.n 0)) (.u (.n 1)))) (.E (.z 0) (.u (.a (.n 0) (.n 1))))) 2 [_,_] [_]) e2)) ?_))
   refine slice_at (i := ((P.length + G.length : Nat) : Int)) (j := ((P.length + G.length : Nat) : Int)) hy2 G2.buf.cl hyc (by exact ar (.L K0 (.u (.a N0 N1))) 2 [_,_] []) (by exact ar (.L (.u (.a N0 N1)) (.u (.a N0 N1))) 2 [_,_] []) (by exact (ar (.i (.e N0 (.a (.a N1 N2) N3)) (.L (.u (.a N1 N2)) (.u N0))) 4 [_,_,_,_] []) hlen) (by rw [List.length_replicate]; unfold lim; exact (ar (.i (.e N0 (.a (.a N1 N2) N3)) (.i (.l (.a (.a N1 N3) (.a N2 N4)) KK) (.l (.a N0 (.a N4 K8)) KM))) 5 [_,_,_,_,_] []) hlen hk) ?_
   simp only [Int.toNat_natCast]
   have hc2 : σ.cells.take (P.length + G.length) ++ List.replicate (d + 8) (.int 0) ++ σ.cells.drop (P.length + G.length) = il P ++ (G ++ List.replicate (d + 8) (.int 0)) ++ il T := by
     have h1 : (il P ++ G).length = P.length + G.length := by rw [List.length_append,il_length]
     rw [R.cells,← h1,List.take_left,List.drop_left,List.append_assoc (il P)]
   rw [hc2]
   have G3 := Go.gap G2.buf (c := il P ++ (G ++ List.replicate (d + 8) (.int 0)) ++ il T)
   generalize H2.set w.cl _ = H3 at *
   have hg3 := G3.buf.g
   refine s_setAttr (x := w.g) (u := .int ((P.length + G.length + (d + 8) : Nat) : Int)) (by simp [hg3,Sg.gap,e2]; exact ar (.E (.a (.a (.a (.u N0) (.u N1)) (.s (.a (.u N1) (.u N2)) (.u N1))) K8) (.a (.a (.u N0) (.u N1)) (.a (.u N2) K8))) 3 [_,_,_] []) (by rfl) hg3 rfl (by decide) rfl (s_back ?_)
   have G4 := (G1.trans G2).trans (G3.trans (G3.buf.ge ((P.length + G.length + (d + 8) : Nat) : Int)))
   refine h _ (il P ++ (G ++ List.replicate (d + 8) (.int 0)) ++ il T) ((P.length + G.length + (d + 8) : Nat) : Int) (G ++ List.replicate (d + 8) (.int 0)) ⟨rfl,e1, ?_, ?_⟩ ?_ G4
   · refine (?_ : ((P.length + G.length + (d + 8) : Nat) : Int) = _)
     rw [List.length_append,List.length_replicate]; exact ar (.E (.u (.a (.a N0 N1) (.a N2 K8))) (.a (.u N0) (.u (.a N1 (.a N2 K8))))) 3 [_,_,_] []
   · refine (?_ : (il P ++ (G ++ List.replicate (d + 8) (AV.int 0)) ++ il T).length ≤ 2000)
     simp only [List.length_append,il_length,List.length_replicate]; exact (ar (.i (.l (.a (.a N0 N1) (.a N2 N3)) KK) (.l (.a (.a N0 (.a N2 (.a N3 K8))) N1) (.k 2000))) 4 [_,_,_,_] []) hk
   · rw [List.length_append,List.length_replicate]; exact ar (.l (.a N0 N1) (.a N0 (.a N1 K8))) 2 [_,_] []
 · have hp : k ≤ G.length := by have := of_decide_eq_false hp; exact (ar (.i (.i (.T K0 (.s (.u N0) (.u N1))) .f) (.l N0 N1)) 2 [_,_] []) this
   exact s_back (h _ σ.cells σ.ge G R hp (Go.refl B))
theorem c_gap_insert (C : Calls call) (B : Buf H w σ) (X : Txt σ t) {cs : Addr} {l : List Int} {a : Nat} (hl : H cs = some (.list (il l))) (hn : ¬ Ow w σ cs) (ha : a ≤ t.length) (hs : t.length + l.length ≤ 1000)
   (h : ∀ H' c s e,Txt (σ.gap c s e) (t.take a ++ l ++ t.drop a) → Go w σ H (σ.gap c s e) H' → Q .none H') : call (n + 2) .gap_insert [.ref w.g,.int a,.ref cs] H Q := by
 obtain ⟨P,G,T,R,rfl⟩ := X
 refine enter C (as := [_,_,_]) (b := b_gap_insert) rfl rfl rfl ?_
 have hg := B.g
 rw [List.length_append] at hs
 have hll : l.length ≤ lim := by unfold lim; exact (ar (.i (.l (.a (.a N0 N1) N2) KK) (.l N2 KM)) 3 [_,_,_] []) hs
 refine s_expr (e_meth (x := w.g) (by rfl) hg rfl rfl (vs := [.int l.length]) (v_cons (v_ln rfl hl (List.length_map _) hll) rfl) (c_gap_widen C B R (by exact (ar (.i (.l (.a (.a N0 N1) N2) KK) (.l (.a (.a N0 N1) N2) KK)) 3 [_,_,_] []) hs) λ H1 c e G' R1 hG G1 => ?_))
 have hg1 := G1.buf.g
 refine s_expr (e_meth (x := w.g) (by rfl) hg1 rfl rfl (vs := [.int a]) (by rfl) (c_gap_move C G1.buf R1 (by exact ar (.L K0 (.u N0)) 1 [_] []) (by exact (ar (.i (.l N0 N1) (.L (.u N0) (.u N1))) 2 [_,_] []) ha) λ H2 c2 s2 e2 P' G'' T' R2 ht hP hG2 G2 => ?_))
 have Gt := G1.trans G2
 have hg2 := G2.buf.g
 have hc2 := G2.buf.cl
 obtain ⟨hl2,hn2⟩ := Gt.ext cs _ hl hn
 have hP : P'.length = a := by exact (ar (.i (.E (.u N0) (.u N1)) (.e N0 N1)) 2 [_,_] []) hP
 have hGl : l.length ≤ G''.length := by exact (ar (.i (.e N0 N1) (.i (.l N2 N1) (.l N2 N0))) 3 [_,_,_] []) hG2 hG
 have hRs := R2.gs
 have hRe := R2.ge
 have hlen := R2.len
 have hsz := R2.sz
 have hcell := R2.cells
 have hx : w.cl ≠ cs := λ z => hn (.inr (.inr (.inl z.symm)))
 refine s_setSlice (x := w.cl) (y := cs) (ys := il l) (i := ((a : Nat) : Int)) (j := ((a + l.length : Nat) : Int)) (by rfl) (v_at rfl hg2 rfl) (by rfl) (v_bin rfl (v_ln rfl hl2 (List.length_map _) hll) rfl) hl2 hc2 hx (by exact ar (.L K0 (.u N0)) 1 [_] []) (by exact ar (.L (.u N0) (.u (.a N0 N1))) 2 [_,_] []) (by exact (ar (.i (.E (.u N0) (.u N1)) (.i (.e N2 (.a (.a N0 N3) N4)) (.i (.e N3 N5) (.i (.l N6 N5) (.L (.u (.a N1 N6)) (.u N2)))))) 7 [_,_,_,_,_,_,_] []) (by assumption) hlen hG2 hG) (by rw [il_length]; unfold lim; exact (ar (.i (.l (.a (.a N0 N1) N2) KK) (.i (.l N3 (.k 2000)) (.l (.a N3 N2) KM))) 4 [_,_,_,_] []) hs hsz) ?_
 simp only [Int.toNat_natCast]
 have hc3 : ((σ.gap c σ.gs e).gap c2 s2 e2).cells.take a ++ il l ++ ((σ.gap c σ.gs e).gap c2 s2 e2).cells.drop (a + l.length) = il (P' ++ l) ++ G''.drop l.length ++ il T' := by
   have t1 : ((σ.gap c σ.gs e).gap c2 s2 e2).cells.take a = il P' := by
     rw [hcell,← hP,List.append_assoc,List.take_append_of_le_length (by rw [il_length]; exact Nat.le_refl _),List.take_of_length_le (by rw [il_length]; exact Nat.le_refl _)]
   have t2 : ((σ.gap c σ.gs e).gap c2 s2 e2).cells.drop (a + l.length) = G''.drop l.length ++ il T' := by
     rw [hcell,← hP,List.append_assoc,List.drop_append,List.drop_of_length_le (by rw [il_length]; exact ar (.l N0 (.a N0 N1)) 2 [_,_] []),List.drop_append_of_le_length (by rw [il_length]; exact (ar (.i (.e N0 N1) (.i (.l N2 N1) (.l (.s (.a N3 N2) N3) N0))) 4 [_,_,_,_] []) hG2 hG),il_length,show P'.length + l.length - P'.length = l.length by exact ar (.e (.s (.a N0 N1) N0) N1) 2 [_,_] [],List.nil_append]
   rw [t1,t2,← il_append]
   simp only [List.append_assoc]
 rw [hc3]
 have G3 := Go.gap G2.buf (c := il (P' ++ l) ++ G''.drop l.length ++ il T')
 generalize H2.set w.cl _ = H3 at *
 have hg3 := G3.buf.g
 have hl3 := (G3.ext cs _ hl2 hn2).1
 refine s_setAttr (x := w.g) (u := .int ((a + l.length : Nat) : Int)) (v_bin rfl (v_ln rfl hl3 (List.length_map _) hll) rfl) (by rfl) hg3 rfl (by decide) rfl ?_
 have G4 := Gt.trans (G3.trans (G3.buf.gs ((a + l.length : Nat) : Int)))
 refine h _ (il (P' ++ l) ++ G''.drop l.length ++ il T') ((a + l.length : Nat) : Int) e2 ⟨P' ++ l,G''.drop l.length,T',⟨rfl, ?_, ?_, ?_⟩, ?_⟩ G4
 · refine (?_ : ((a + l.length : Nat) : Int) = _)
   rw [List.length_append,hP]
 · refine (?_ : e2 = _)
   rw [show e2 = _ from hRe,List.length_append,List.length_drop]; exact (ar (.i (.e N0 N1) (.i (.l N2 N1) (.E (.a (.u N3) (.u N0)) (.a (.u (.a N3 N2)) (.u (.s N0 N2)))))) 4 [_,_,_,_] []) hG2 hG
 · refine (?_ : (il (P' ++ l) ++ G''.drop l.length ++ il T').length ≤ 2000)
   simp only [List.length_append,il_length,List.length_drop]; exact (ar (.i (.e N0 (.a (.a N1 N2) N3)) (.i (.e N2 N4) (.i (.l N0 (.k 2000)) (.i (.l N5 N4) (.l (.a (.a (.a N1 N5) (.s N2 N5)) N3) (.k 2000)))))) 6 [_,_,_,_,_,_] []) hlen hG2 hsz hG
 · rw [← ht,← hP,List.take_left,List.drop_left]
theorem c_gap_delete (C : Calls call) (B : Buf H w σ) (X : Txt σ t) {s e : Nat} (h1 : s ≤ e) (h2 : e ≤ t.length)
   (h : ∀ x H' c a b,H x = none → Txt (σ.gap c a b) (t.take s ++ t.drop e) → Go w σ H (σ.gap c a b) H' → H' x = some (.list (il ((t.take e).drop s))) → ¬ Ow w σ x → Q (.ref x) H') : call (n + 2) .gap_delete [.ref w.g,.int s,.int e] H Q := by
 obtain ⟨P,G,T,R,rfl⟩ := X
 refine enter C (as := [_,_,_]) (b := b_gap_delete) rfl rfl rfl ?_
 have hg := B.g
 refine s_assignE (e_meth (x := w.g) (by rfl) hg rfl rfl (vs := [.int s,.int e]) (by rfl) (c_gap_codes C B ⟨P,G,T,R,rfl⟩ (by exact ar (.L K0 (.u N0)) 1 [_] []) (by exact (ar (.i (.l N0 N1) (.L (.u N0) (.u N1))) 2 [_,_] []) h1) (by exact (ar (.i (.l N0 N1) (.L (.u N0) (.u N1))) 2 [_,_] []) h2) λ x H1 hx G1 hx1 nx => ?_))
 simp only [Int.toNat_natCast] at hx1
 rw [List.length_append] at h2
 have fin : ∀ H' (ρ : Locals) c a b P' G' T',ρ 0 = some (.ref w.g) → ρ 1 = some (.int s) → ρ 2 = some (.int e) → ρ 3 = some (.ref x) → Rep (σ.gap c a b) P' G' T' → P' ++ T' = P ++ T → s ≤ P'.length → P'.length ≤ e → Go w σ H (σ.gap c a b) H' → H' x = some (.list (il (((P ++ T).take e).drop s))) →
     mSs (call (n + 1)) [.setAttr (.var 0) .gap_end (.bin .sub (.bin .add (.attr (.var 0) .gap_end) (.var 2)) (.attr (.var 0) .gap_start)),.setAttr (.var 0) .gap_start (.var 1),.ret (some (.var 3))] ρ H' (λ mf _ H' => match mf with | .next => Q .none H' | .ret v => Q v H') := by
   intro H' ρ c a b P' G' T' r0 r1 r2 r3 R' ht hs he G2 hx2
   have hg2 := G2.buf.g
   have hRs := R'.gs
   have hRe := R'.ge
   have hlen := R'.len
   have hsz := R'.sz
   have hl := congrArg List.length ht
   rw [List.length_append,List.length_append] at hl
   refine s_setAttr (x := w.g) (u := .int ((e + G'.length : Nat) : Int)) (vi (v_bin (v_bin (v_at r0 hg2 rfl) r2 rfl) (v_at r0 hg2 rfl) rfl) (by exact (ar (.i (.E (.z 0) (.a (.u (.n 0)) (.u (.n 1)))) (.i (.E (.z 1) (.u (.n 0))) (.E (.s (.a (.z 0) (.u (.n 2))) (.z 1)) (.u (.a (.n 2) (.n 1)))))) 3 [_,_,_] [_,_]) hRe hRs)) (by assumption) hg2 rfl (by decide) rfl ?_
   have G3 := G2.buf.ge ((e + G'.length : Nat) : Int)
   generalize H'.set w.g _ = H3 at *
   have hg3 := G3.buf.g
   refine s_setAttr (x := w.g) (u := .int (s : Int)) (by assumption) (by assumption) hg3 rfl (by decide) rfl ?_
   have G4 := G3.trans (G3.buf.gs (s : Int))
   have hx4 := (G4.ext x _ hx2 (λ o => by
     obtain ⟨y,ey⟩ := B.live o
     rw [hx] at ey; exact nn ey)).1
   generalize H3.set w.g _ = H4 at *
   refine s_ret (v := .ref x) (by assumption) (h x H4 c (s : Int) ((e + G'.length : Nat) : Int) hx ⟨P'.take s,il (P'.drop s) ++ G' ++ il (T'.take (e - P'.length)),T'.drop (e - P'.length),⟨?_, ?_, ?_,hsz⟩, ?_⟩ (G2.trans G4) hx4 nx)
   · refine (?_ : c = _)
     rw [show c = _ from R'.cells]
     conv => lhs; rw [← List.take_append_drop s P',← List.take_append_drop (e - P'.length) T']
     rw [← il_append,← il_append]
     simp only [List.append_assoc]
   · refine (?_ : (s : Int) = _)
     rw [List.length_take]; exact (ar (.i (.l N0 N1) (.E (.u N0) (.u (.i N0 N1)))) 2 [_,_] []) hs
   · refine (?_ : ((e + G'.length : Nat) : Int) = _)
     simp only [List.length_append,il_length,List.length_take,List.length_drop]; exact (ar (.i (.e (.a N0 N1) (.a N2 N3)) (.i (.l N4 (.a N2 N3)) (.i (.l N0 N4) (.E (.u (.a N4 N5)) (.a (.u (.i N6 N0)) (.u (.a (.a (.s N0 N6) N5) (.i (.s N4 N0) N1)))))))) 7 [_,_,_,_,_,_,_] []) hl h2 he
   · rw [← ht,List.take_append_of_le_length hs,List.drop_append,List.drop_of_length_le he,List.nil_append]
 have e1 := R.gs
 have hg1 := G1.buf.g
 refine s_ite (p := decide ((e : Int) < σ.gs)) (w_cmp rfl (v_at rfl hg1 rfl) rfl) (λ hp => ?_) (λ hp => ?_)
 · have hp : e < P.length := by have := of_decide_eq_true hp; exact (ar (.i (.E Z0 (.u N0)) (.i (.T (.u N1) Z0) (.t N1 N0))) 2 [_,_] [_]) e1 this
   refine s_expr (e_meth (x := w.g) (by rfl) hg1 rfl rfl (vs := [.int e]) (by rfl) (c_gap_move C G1.buf R (by exact ar (.L K0 (.u N0)) 1 [_] []) (by rw [List.length_append]; exact (ar (.i (.l N0 (.a N1 N2)) (.L (.u N0) (.u (.a N1 N2)))) 3 [_,_,_] []) h2) λ H2 c2 s2 e2 P' G'' T' R2 ht hP hG2 G2 => s_back ?_))
   have hg2 := G2.buf.g
   have hgs := R2.gs
   refine s_skip (wf (w_cmp rfl (v_at rfl hg2 rfl) rfl) (by exact (ar (.i (.E (.u (.n 0)) (.u (.n 1))) (.i (.E (.z 0) (.u (.n 0))) (.i (.l (.n 2) (.n 1)) (.i (.T (.z 0) (.u (.n 2))) .f)))) 3 [_,_,_] [_]) hP hgs h1)) ?_
   exact fin H2 _ c2 s2 e2 P' G'' T' rfl rfl rfl rfl R2 ht (by exact (ar (.i (.E (.u N0) (.u N1)) (.i (.l N2 N1) (.l N2 N0))) 3 [_,_,_] []) hP h1) (by exact (ar (.i (.E (.u N0) (.u N1)) (.l N0 N1)) 2 [_,_] []) hP) (G1.trans G2) (G2.ext x _ hx1 nx).1
 · have hp : P.length ≤ e := by have := of_decide_eq_false hp; exact (ar (.i (.E Z0 (.u N0)) (.i (.i (.T (.u N1) Z0) .f) (.l N0 N1))) 2 [_,_] [_]) e1 this
   refine s_back (s_ite (p := decide ((s : Int) > σ.gs)) (w_cmp rfl (v_at rfl hg1 rfl) rfl) (λ hq => ?_) (λ hq => ?_))
   · have hq : P.length < s := by have := of_decide_eq_true hq; exact (ar (.i (.E Z0 (.u N0)) (.i (.T Z0 (.u N1)) (.t N0 N1))) 2 [_,_] [_]) e1 this
     refine s_expr (e_meth (x := w.g) (by rfl) hg1 rfl rfl (vs := [.int s]) (by rfl) (c_gap_move C G1.buf R (by exact ar (.L K0 (.u N0)) 1 [_] []) (by rw [List.length_append]; exact (ar (.i (.l N0 (.a N1 N2)) (.i (.l N3 N0) (.L (.u N3) (.u (.a N1 N2))))) 4 [_,_,_,_] []) h2 h1) λ H2 c2 s2 e2 P' G'' T' R2 ht hP hG2 G2 => s_back ?_))
     exact fin H2 _ c2 s2 e2 P' G'' T' rfl rfl rfl rfl R2 ht (by exact (ar (.i (.E (.u N0) (.u N1)) (.l N1 N0)) 2 [_,_] []) hP) (by exact (ar (.i (.E (.u N0) (.u N1)) (.i (.l N1 N2) (.l N0 N2))) 3 [_,_,_] []) hP h1) (G1.trans G2) (G2.ext x _ hx1 nx).1
   · have hq : s ≤ P.length := by have := of_decide_eq_false hq; exact (ar (.i (.E Z0 (.u N0)) (.i (.i (.T Z0 (.u N1)) .f) (.l N1 N0))) 2 [_,_] [_]) e1 this
     exact s_back (fin H1 _ σ.cells σ.gs σ.ge P G T rfl rfl rfl rfl R rfl hq hp G1 hx1)
end

end P_C7

section P_C8
open PySem

noncomputable def MsOk (l : List Mk) : Prop := intKeys (dictOfMs l) = true
noncomputable def mapP (f : Mk → Int) (l : List Mk) : List Mk := l.map λ r => { r with pos := f r }
noncomputable def fIns (s e : Int) (b : Bool) (r : Mk) : Int := if r.pos > s ∨ (r.pos = s ∧ (b = true ∨ r.adv = true)) then r.pos + e - s else r.pos
noncomputable def fDel (s e : Int) (r : Mk) : Int := if r.pos > e then r.pos - (e - s) else if r.pos > s then s else r.pos
noncomputable def fRep (s e many : Int) (r : Mk) : Int := if r.pos ≥ e then r.pos + many - (e - s) else if r.pos > s then s else r.pos
section
variable {call : Nat → Fn → List AV → AHeap → (AV → AHeap → Prop) → Prop} {n : Nat} {H : AHeap} {w : Wh} {σ : Sg} {Q : AV → AHeap → Prop} {t : List Int}
theorem dict_pos (l₁ l₂ : List Mk) (r : Mk) (p : Int) : dictOfMs (l₁ ++ { r with pos := p } :: l₂) = dictOfMs (l₁ ++ r :: l₂) := by simp [dictOfMs]
theorem key_at {l₁ l₂ : List Mk} {r : Mk} (h : MsOk (l₁ ++ r :: l₂)) : keyOf (dictOfMs (l₁ ++ r :: l₂)) r.num = some (.ref r.k) := by
 match l₁,l₂,h with
 | [],_,_ => simp [keyOf,dictOfMs]
 | [a],[],h =>
   have h : decide (a.num < r.num) = true := h
   have h := of_decide_eq_true h
   have : (r.num == a.num) = false := by simp; exact (ar (.i (.T Z0 Z1) (.i (.E Z1 Z0) .f)) 2 [] [_,_]) h
   simp [keyOf,dictOfMs,List.lookup_cons,this]
 | [a],b :: l,h => exact ft h
 | [a,b],[],h => exact ft h
 | [a,b],_ :: _,h => exact ft h
 | a :: b :: c :: l,_,h => exact ft h
theorem c_mk_numbers (C : Calls call) (B : Buf H w σ) (ok : MsOk σ.ms) (h : ∀ x,H x = none → Q (.ref x) (H.set x (.list (σ.ms.map λ r => .int r.num)))) : call (n + 1) .mk_numbers [.ref w.m] H Q := by
 refine enter C (as := [_]) (b := b_mk_numbers) rfl rfl rfl ?_
 have hm := B.m
 refine s_retE (e_sorted (y := w.md) (v_at rfl hm rfl) B.md ok λ x hx => ?_)
 have : (dictOfMs σ.ms).map (λ p => AV.int p.1) = σ.ms.map λ r => .int r.num := by simp [dictOfMs]
 rw [this]
 exact h x hx
theorem mk_loop {call : Fn → List AV → AHeap → (AV → AHeap → Prop) → Prop} {body : List MS} {v : Nat} {R : Locals → Prop} {x : Addr} {L : List AV} {Q : SPost} (f : Mk → Int)
   (turn : ∀ l₁ r l₂ ρ' H',MsOk (l₁ ++ r :: l₂) → R ρ' → Buf H' w { σ with ms := l₁ ++ r :: l₂ } → ∀ Q' : SPost,(∀ ρ'' H'',R ρ'' → Go w { σ with ms := l₁ ++ r :: l₂ } H' { σ with ms := l₁ ++ { r with pos := f r } :: l₂ } H'' → Q' .next ρ'' H'') →
     mSs call body (upd ρ' v (.int r.num)) H' Q') : ∀ l₂ l₁ ρ' H',MsOk (l₁ ++ l₂) → R ρ' → Buf H' w { σ with ms := l₁ ++ l₂ } → H' x = some (.list L) → ¬ Ow w { σ with ms := l₁ ++ l₂ } x →
     (∀ ρ'' H'',R ρ'' → Go w { σ with ms := l₁ ++ l₂ } H' { σ with ms := l₁ ++ mapP f l₂ } H'' → Q .next ρ'' H'') →
     mFor (bindT [v] true) (λ H' => H' x = some (.list L)) (λ ρ' H' Q' => mSs call body ρ' H' Q') (l₂.map λ r => .int r.num) ρ' H' Q
 | [],l₁,ρ',H',ok,r0,B,hx,nx,h => h ρ' H' r0 (Go.refl B)
 | r :: l₂,l₁,ρ',H',ok,r0,B,hx,nx,h => by
   refine ⟨_,rfl,turn l₁ r l₂ ρ' H' ok r0 B _ λ ρ'' H'' r1 G => ?_⟩
   obtain ⟨hx',nx'⟩ := G.ext x _ hx nx
   refine ⟨hx', ?_⟩
   have e : ∀ l,l₁ ++ ({ r with pos := f r } : Mk) :: l = (l₁ ++ [{ r with pos := f r }]) ++ l := λ l => by simp
   have ok' : MsOk ((l₁ ++ [{ r with pos := f r }]) ++ l₂) := by
     unfold MsOk at ok ⊢
     rw [← e,dict_pos]; exact ok
   rw [e] at G nx'
   refine mk_loop f turn l₂ (l₁ ++ [{ r with pos := f r }]) ρ'' H'' ok' r1 G.buf hx' nx' λ ρ3 H3 r3 G3 => h ρ3 H3 r3 ?_
   have G4 := G.trans G3
   rw [← e] at G4
   exact G4
theorem numbers_loop {call' : Nat → Fn → List AV → AHeap → (AV → AHeap → Prop) → Prop} (C : Calls call') {body ss : List MS} {v : Nat} {R : Locals → Prop} {ρ : Locals} {Q : SPost} (f : Mk → Int) (B : Buf H w σ) (ok : MsOk σ.ms) (r0 : R ρ) (hr : ∀ ρ,R ρ → ρ 0 = some (.ref w.m))
   (turn : ∀ l₁ r l₂ ρ' H',MsOk (l₁ ++ r :: l₂) → R ρ' → Buf H' w { σ with ms := l₁ ++ r :: l₂ } → ∀ Q' : SPost,(∀ ρ'' H'',R ρ'' → Go w { σ with ms := l₁ ++ r :: l₂ } H' { σ with ms := l₁ ++ { r with pos := f r } :: l₂ } H'' → Q' .next ρ'' H'') →
     mSs (call' (n + 1)) body (upd ρ' v (.int r.num)) H' Q') (h : ∀ ρ'' H'',R ρ'' → Go w σ H { σ with ms := mapP f σ.ms } H'' → mSs (call' (n + 1)) ss ρ'' H'' Q) :
   mSs (call' (n + 1)) (.forList [v] true (.meth (.var 0) .numbers []) body :: ss) ρ H Q := by
 have hm := B.m
 refine s_forE (e_meth (x := w.m) (by simp [hr ρ r0]) hm rfl rfl (vs := []) rfl (c_mk_numbers C B ok λ x hx => for_at at_self ?_))
 have G := Go.new (o := .list (σ.ms.map λ r => .int r.num)) B hx
 have hx1 : (H.set x (.list (σ.ms.map λ r => .int r.num))) x = some _ := at_self
 have nx := B.new hx
 generalize H.set x _ = H1 at *
 exact mk_loop f turn σ.ms [] ρ H1 ok r0 G.buf hx1 nx λ ρ'' H'' r G2 => h ρ'' H'' r (G.trans G2)
noncomputable def R3 (w : Wh) (a b : Int) (ρ : Locals) : Prop := ρ 0 = some (.ref w.m) ∧ ρ 1 = some (.int a) ∧ ρ 2 = some (.int b)
theorem c_mk_inserted (C : Calls call) (B : Buf H w σ) (ok : MsOk σ.ms) {a b : Int} {p : Bool} (h : ∀ H',Go w σ H { σ with ms := mapP (fIns a b p) σ.ms } H' → Q .none H') : call (n + 2) .mk_inserted [.ref w.m,.int a,.int b,.bool p] H Q := by
 refine enter C (as := [_,_,_,_]) (b := b_mk_inserted) rfl rfl rfl ?_
 refine numbers_loop C (R := λ ρ => R3 w a b ρ ∧ ρ 3 = some (.bool p)) (fIns a b p) B ok ⟨⟨rfl,rfl,rfl⟩,rfl⟩ (λ ρ r => r.1.1) ?_ λ ρ'' H'' _ G => h H'' G
 rintro l₁ r l₂ ρ H' ok ⟨⟨r0,r1,r2⟩,r3⟩ B' Q' h'
 have hm := B'.m
 have hd := B'.md
 have hk := B'.mks r (by simp)
 have key := key_at ok
 refine s_assign (v := .ref r.k) (v_idd (v_at r0 hm rfl) rfl hd key) ?_
 by_cases hc : r.pos > a ∨ (r.pos = a ∧ (p = true ∨ r.adv = true))
 · refine s_iteT ?_ (s_setAttr (x := r.k) (u := .int (r.pos + b - a)) (v_bin (v_bin (v_at rfl hk rfl) r2 rfl) r1 rfl) (by rfl) hk rfl (by decide) rfl (s_back (h' _ _ ⟨⟨r0,r1,r2⟩,r3⟩ ?_)))
   · rcases hc with hc | ⟨hc,hc' | hc'⟩
     · exact (w_or (w_no (wt (w_cmp (v_at rfl hk rfl) r1 rfl) hc) rfl))
     · exact (w_or (w_go (wf (w_cmp (v_at rfl hk rfl) r1 rfl) (by exact (ar (.i (.E (.z 0) (.z 1)) (.i (.T (.z 1) (.z 0)) .f)) 2 [] [_,_]) hc)) (w_no (w_and (w_go (wq (w_cmp (v_at rfl hk rfl) r1 rfl) (beq_iff_eq.mpr hc)) (w_go (w_or (w_no (wq (w_v r3) hc') rfl)) rfl))) rfl)))
     · cases p <;> simp [hk,r1,hc,r3,hc']
   · have G := B'.pos rfl (r.pos + b - a)
     have e : fIns a b p r = r.pos + b - a := if_pos hc
     rw [e]; exact G
 · have e : fIns a b p r = r.pos := if_neg hc
   refine s_iteF ?_ (s_back (h' _ _ ⟨⟨r0,r1,r2⟩,r3⟩ (by rw [e]; exact Go.refl B')))
   have h1 : ¬ a < r.pos := λ z => hc (.inl z)
   by_cases h2 : r.pos = a
   · have h3 : p = false := by cases p; rfl; exact absurd (.inr ⟨h2,.inl rfl⟩) hc
     have h4 : r.adv = false := by cases q : r.adv; rfl; exact absurd (.inr ⟨h2,.inr q⟩) hc
     simp [hk,r1,h2,r3,h3,h4]
   · simp [hk,r1,h1,h2]
theorem c_mk_deleted (C : Calls call) (B : Buf H w σ) (ok : MsOk σ.ms) {a b : Int} (h : ∀ H',Go w σ H { σ with ms := mapP (fDel a b) σ.ms } H' → Q .none H') : call (n + 2) .mk_deleted [.ref w.m,.int a,.int b] H Q := by
 refine enter C (as := [_,_,_]) (b := b_mk_deleted) rfl rfl rfl ?_
 refine numbers_loop C (R := R3 w a b) (fDel a b) B ok ⟨rfl,rfl,rfl⟩ (λ ρ r => r.1) ?_ λ ρ'' H'' _ G => h H'' G
 rintro l₁ r l₂ ρ H' ok ⟨r0,r1,r2⟩ B' Q' h'
 have hm := B'.m
 have hd := B'.md
 have hk := B'.mks r (by simp)
 have key := key_at ok
 refine s_assign (v := .ref r.k) (v_idd (v_at r0 hm rfl) rfl hd key) ?_
 by_cases h1 : r.pos > b
 · refine s_iteT (wt (w_cmp (v_at rfl hk rfl) r2 rfl) h1) (s_setAttr (x := r.k) (u := .int (r.pos - (b - a))) (v_bin (v_at rfl hk rfl) (v_bin r2 r1 rfl) rfl) (by rfl) hk rfl (by decide) rfl (s_back (h' _ _ ⟨r0,r1,r2⟩ ?_)))
   have e : fDel a b r = r.pos - (b - a) := if_pos h1
   rw [e]; exact B'.pos rfl _
 · refine s_iteF (wf (w_cmp (v_at rfl hk rfl) r2 rfl) h1) ?_
   by_cases h2 : r.pos > a
   · refine s_iteT (wt (w_cmp (v_at rfl hk rfl) r1 rfl) h2) (s_setAttr (x := r.k) (u := .int a) (by assumption) (by rfl) hk rfl (by decide) rfl (s_back (s_back (h' _ _ ⟨r0,r1,r2⟩ ?_))))
     have e : fDel a b r = a := (if_neg h1).trans (if_pos h2)
     rw [e]; exact B'.pos rfl _
   · refine s_iteF (wf (w_cmp (v_at rfl hk rfl) r1 rfl) h2) (s_back (s_back (h' _ _ ⟨r0,r1,r2⟩ ?_)))
     have e : fDel a b r = r.pos := (if_neg h1).trans (if_neg h2)
     rw [e]; exact Go.refl B'
theorem c_mk_replaced (C : Calls call) (B : Buf H w σ) (ok : MsOk σ.ms) {a b m : Int} (h : ∀ H',Go w σ H { σ with ms := mapP (fRep a b m) σ.ms } H' → Q .none H') : call (n + 2) .mk_replaced [.ref w.m,.int a,.int b,.int m] H Q := by
 refine enter C (as := [_,_,_,_]) (b := b_mk_replaced) rfl rfl rfl ?_
 refine numbers_loop C (R := λ ρ => R3 w a b ρ ∧ ρ 3 = some (.int m)) (fRep a b m) B ok ⟨⟨rfl,rfl,rfl⟩,rfl⟩ (λ ρ r => r.1.1) ?_ λ ρ'' H'' _ G => h H'' G
 rintro l₁ r l₂ ρ H' ok ⟨⟨r0,r1,r2⟩,r3⟩ B' Q' h'
 have hm := B'.m
 have hd := B'.md
 have hk := B'.mks r (by simp)
 have key := key_at ok
 refine s_assign (v := .ref r.k) (v_idd (v_at r0 hm rfl) rfl hd key) ?_
 by_cases h1 : r.pos ≥ b
 · refine s_iteT (wt (w_cmp (v_at rfl hk rfl) r2 rfl) h1) (s_setAttr (x := r.k) (u := .int (r.pos + m - (b - a))) (v_bin (v_bin (v_at rfl hk rfl) r3 rfl) (v_bin r2 r1 rfl) rfl) (by rfl) hk rfl (by decide) rfl (s_back (h' _ _ ⟨⟨r0,r1,r2⟩,r3⟩ ?_)))
   have e : fRep a b m r = r.pos + m - (b - a) := if_pos h1
   rw [e]; exact B'.pos rfl _
 · refine s_iteF (wf (w_cmp (v_at rfl hk rfl) r2 rfl) h1) ?_
   by_cases h2 : r.pos > a
   · refine s_iteT (wt (w_cmp (v_at rfl hk rfl) r1 rfl) h2) (s_setAttr (x := r.k) (u := .int a) (by assumption) (by rfl) hk rfl (by decide) rfl (s_back (s_back (h' _ _ ⟨⟨r0,r1,r2⟩,r3⟩ ?_))))
     have e : fRep a b m r = a := (if_neg h1).trans (if_pos h2)
     rw [e]; exact B'.pos rfl _
   · refine s_iteF (wf (w_cmp (v_at rfl hk rfl) r1 rfl) h2) (s_back (s_back (h' _ _ ⟨⟨r0,r1,r2⟩,r3⟩ ?_)))
     have e : fRep a b m r = r.pos := (if_neg h1).trans (if_neg h2)
     rw [e]; exact Go.refl B'
end

end P_C8

section P_C9
open PySem

noncomputable def dist (s e : Int) (r : Mk) : Int := if r.pos < s ∨ r.pos > e then 0 else if r.adv = true then e - r.pos else s - r.pos
noncomputable def inside (s e : Int) (r : Mk) : Bool := decide (s ≤ r.pos) && decide (r.pos ≤ e)
noncomputable def atB (l : List Row) : Bool := match l.getLast? with
 | none => true
 | some r => r.isB
section
variable {call : Nat → Fn → List AV → AHeap → (AV → AHeap → Prop) → Prop} {n : Nat} {H H' : AHeap} {w : Wh} {σ σ' : Sg} {Q : AV → AHeap → Prop} {t : List Int}
theorem Buf.pokeO (B : Buf H w σ) {x : Addr} {o o' : AO} (hx : H x = some o) (h1 : Nat.beq 3 o.tag = false) (h2 : Nat.beq 5 o.tag = false) (nx : ¬ Ow w σ x) : Buf (H.set x o') w σ := by
 have ow : ∀ a,Ow w σ a → a ≠ x := λ a h z => nx (z ▸ h)
 exact ⟨at_other B.b (ow _ (.inl rfl)),at_other B.g (ow _ (.inr (.inl rfl))),at_other B.cl (ow _ (.inr (.inr (.inl rfl)))),at_other B.m (ne_tag B.m hx h1),at_other B.md (ow _ (.inr (.inr (.inr (.inl rfl))))),at_other B.ls (ow _ (.inr (.inr (.inr (.inr (.inl rfl)))))),λ r hr => at_other (B.mks r hr) (ow _ (.inr (.inr (.inr (.inr (.inr (.inr ⟨r,hr,rfl⟩))))))),
   λ u => at_other (B.rc u) (ne_tag (B.rc u) hx h2),λ u => at_other (B.u u) (ow _ (.inr (.inr (.inr (.inr (.inr (.inl ⟨u,.inl rfl⟩))))))),λ u => at_other (B.ul u) (ow _ (.inr (.inr (.inr (.inr (.inr (.inl ⟨u,.inr rfl⟩))))))),B.n1,B.n2,B.n3⟩
theorem Buf.poke (B : Buf H w σ) {x : Addr} {l l' : List AV} (hx : H x = some (.list l)) (nx : ¬ Ow w σ x) : Buf (H.set x (.list l')) w σ := B.pokeO hx ff ff nx
theorem Go.pokeO (G : Go w σ H σ' H') {x : Addr} {o o' : AO} (h0 : H x = none) (hx : H' x = some o) (h1 : Nat.beq 3 o.tag = false) (h2 : Nat.beq 5 o.tag = false) (nx : ¬ Ow w σ' x) : Go w σ H σ' (H'.set x o') :=
 ⟨G.buf.pokeO hx h1 h2 nx,λ a q e n => let ⟨e',n'⟩ := G.ext a q e n; ⟨at_other e' λ z => (by rw [z,h0] at e; exact nn e),n'⟩⟩
theorem Go.poke (G : Go w σ H σ' H') {x : Addr} {l l' : List AV} (h0 : H x = none) (hx : H' x = some (.list l)) (nx : ¬ Ow w σ' x) : Go w σ H σ' (H'.set x (.list l')) :=
 ⟨G.buf.poke hx nx,λ a o e n => let ⟨e',n'⟩ := G.ext a o e n; ⟨at_other e' λ z => (by rw [z,h0] at e; exact nn e),n'⟩⟩
theorem c_marker_distance (C : Calls call) {r : Mk} {s e : Int} (h : Q (.int (dist s e r)) H) : call (n + 1) .marker_distance [.int r.pos,.int s,.int e,.bool r.adv] H Q := by
 refine enter C (as := [_,_,_,_]) (b := b_marker_distance) rfl rfl rfl ?_
 unfold dist at h
 by_cases hc : r.pos < s ∨ r.pos > e
 · rw [if_pos hc] at h
   refine s_iteT ?_ (s_ret (v := .int 0) rfl h)
   rcases hc with hc | hc <;> simp [hc]
 · rw [if_neg hc] at h
   have h1 : ¬ r.pos < s := λ z => hc (.inl z)
   have h2 : ¬ r.pos > e := λ z => hc (.inr z)
   refine s_skip (w_or (w_go (wf (w_cmp rfl rfl rfl) h1) (w_go (wf (w_cmp rfl rfl rfl) h2) rfl))) (s_retE ?_)
   refine evT_ok _ (b := r.adv) (by rfl) ⟨λ z => ?_,λ z => ?_⟩
   · rw [if_pos z] at h
     exact ev_ok _ (v := .int (e - r.pos)) (by rfl) h
   · rw [if_neg (by rw [z]; simp)] at h
     exact ev_ok _ (v := .int (s - r.pos)) (by rfl) h
noncomputable def refs (l : List Mk) : List AV := l.map λ r => .ref r.k
theorem within_loop {call : Fn → List AV → AHeap → (AV → AHeap → Prop) → Prop} {x xf : Addr} {L : List AV} {s e : Int} {body : List MS} {R : Locals → Prop} {Q : SPost} (ok : MsOk σ.ms) (h0 : H xf = none)
   (turn : ∀ l₁ r l₂ acc ρ' H',σ.ms = l₁ ++ r :: l₂ → R ρ' → Buf H' w σ → H' xf = some (.list acc) → acc.length ≤ 10 → ∀ Q' : SPost,(∀ ρ'',R ρ'' → Q' .next ρ'' (if inside s e r = true then H'.set xf (.list (acc ++ [.ref r.k])) else H')) → mSs call body (upd ρ' 4 (.int r.num)) H' Q') : ∀ l₂ l₁ acc ρ' H',σ.ms = l₁ ++ l₂ → R ρ' → Go w σ H σ H' → x ≠ xf → H' x = some (.list L) → H' xf = some (.list acc) → ¬ Ow w σ xf → acc.length ≤ l₁.length →
     (∀ ρ'' H'',R ρ'' → Go w σ H σ H'' → H'' xf = some (.list (acc ++ refs (l₂.filter (inside s e)))) → Q .next ρ'' H'') →
     mFor (bindT [4] true) (λ H' => H' x = some (.list L)) (λ ρ' H' Q' => mSs call body ρ' H' Q') (l₂.map λ r => .int r.num) ρ' H' Q
 | [],l₁,acc,ρ',H',hm,r0,G,nx,hx,hf,no,hl,h => h ρ' H' r0 G (by simpa [refs] using hf)
 | r :: l₂,l₁,acc,ρ',H',hm,r0,G,nx,hx,hf,no,hl,h => by
   have hl2 : l₁.length ≤ 1 := by
     rw [hm] at ok
     match l₁,ok with
     | [],_ => simp
     | [a],_ => simp
     | [a,b],ok => exact ft ok
     | a :: b :: c :: l,ok => exact ft ok
   refine ⟨_,rfl,turn l₁ r l₂ acc ρ' H' hm r0 G.buf hf (by exact (ar (.i (.l N0 K1) (.i (.l N1 N0) (.l N1 (.k 10)))) 2 [_,_] []) hl2 hl) _ λ ρ'' r1 => ?_⟩
   have hm' : σ.ms = (l₁ ++ [r]) ++ l₂ := by rw [hm]; simp
   by_cases hi : inside s e r = true
   · rw [if_pos hi]
     refine ⟨at_other hx nx,within_loop ok h0 turn l₂ (l₁ ++ [r]) (acc ++ [.ref r.k]) ρ'' _ hm' r1 (G.poke h0 hf no) nx (at_other hx nx) at_self no (by simp; exact (ar (.i (.l N0 N1) (.l N0 N1)) 2 [_,_] []) hl) λ ρ3 H3 r3 G3 h3 => h ρ3 H3 r3 G3 ?_⟩
     rw [h3,List.filter_cons,if_pos hi]; simp [refs]
   · rw [if_neg hi]
     refine ⟨hx,within_loop ok h0 turn l₂ (l₁ ++ [r]) acc ρ'' _ hm' r1 G nx hx hf no (by simp; exact (ar (.i (.l N0 N1) (.l N0 (.a N1 K1))) 2 [_,_] []) hl) λ ρ3 H3 r3 G3 h3 => h ρ3 H3 r3 G3 ?_⟩
     rw [h3,List.filter_cons,if_neg hi]
theorem c_mk_within (C : Calls call) (B : Buf H w σ) (ok : MsOk σ.ms) {s e : Int} (h : ∀ x H',H x = none → Go w σ H σ H' → H' x = some (.list (refs (σ.ms.filter (inside s e)))) → ¬ Ow w σ x → Q (.ref x) H') : call (n + 2) .mk_within [.ref w.m,.int s,.int e] H Q := by
 refine enter C (as := [_,_,_]) (b := b_mk_within) rfl rfl rfl ?_
 refine s_assignE (e_lst (vs := []) rfl λ xf hf => ?_)
 have G := Go.new (o := .list []) B hf
 have hf1 : (H.set xf (.list [])) xf = some _ := at_self
 have nf := B.new hf
 generalize H.set xf _ = H1 at *
 have hm := G.buf.m
 refine s_forE (e_meth (x := w.m) (by rfl) hm rfl rfl (vs := []) rfl (c_mk_numbers C G.buf ok λ x hx => for_at at_self ?_))
 have G2 := G.trans (Go.new (o := .list (σ.ms.map λ r => .int r.num)) G.buf hx)
 have hx1 : (H1.set x (.list (σ.ms.map λ r => .int r.num))) x = some _ := at_self
 have nx : x ≠ xf := λ z => by rw [z,hf1] at hx; exact sn hx
 have hf2 := at_other (x := .list (σ.ms.map λ r => .int r.num)) hf1 nx.symm
 generalize H1.set x _ = H2 at *
 refine within_loop (s := s) (e := e) (R := λ ρ => R3 w s e ρ ∧ ρ 3 = some (.ref xf)) ok hf ?_ σ.ms [] [] _ H2 rfl ⟨⟨rfl,rfl,rfl⟩,rfl⟩ G2 nx hx1 hf2 nf (by simp) λ ρ'' H'' r G3 h3 => ?_
 · rintro l₁ r l₂ acc ρ' H' hms ⟨⟨r0,r1,r2⟩,r3⟩ B' hacc hlen Q' h'
   have hm := B'.m
   have hd := B'.md
   have hk := B'.mks r (by rw [hms]; simp)
   have key := key_at (hms ▸ ok)
   rw [← hms] at key
   by_cases hi : inside s e r = true
   · rw [if_pos hi] at h'
     have hi' := hi
     unfold inside at hi'
     rw [Bool.and_eq_true,decide_eq_true_eq,decide_eq_true_eq] at hi'
     refine s_iteT (by simp [r0,r1,r2,hm,hd,key,hk,hi'.1,hi'.2]) (s_expr (e_append (x := xf) (u := .ref r.k) (by assumption) hacc (v_idd (v_at r0 hm rfl) rfl hd key) (by unfold lim; exact (ar (.i (.l N0 (.k 10)) (.t N0 KM)) 1 [_] []) hlen) (s_back (h' _ ⟨⟨r0,r1,r2⟩,r3⟩))))
   · rw [if_neg hi] at h'
     refine s_iteF ?_ (s_back (h' _ ⟨⟨r0,r1,r2⟩,r3⟩))
     unfold inside at hi
     rw [Bool.and_eq_true,decide_eq_true_eq,decide_eq_true_eq] at hi
     by_cases h1 : s ≤ r.pos
     · have h2 : ¬ r.pos ≤ e := λ z => hi ⟨h1,z⟩
       simp [r0,r1,r2,hm,hd,key,hk,h1,h2]
     · simp [r0,r1,r2,hm,hd,key,hk,h1]
 · exact s_ret (v := .ref xf) r.2 (h xf H'' hf G3 (by simpa using h3) nf)
theorem last_get {l : List Row} (hl : l.length ≤ lim) : nth (l.map Row.av) (-1) = (l.getLast?).map Row.av := by
 unfold nth
 rw [if_neg (by decide)]
 cases l with
 | nil => rfl
 | cons a l =>
   rw [if_pos ⟨by simp; exact ar (.L K0 (.a (.g K1) (.a (.u N0) K1))) 1 [_] [],by unfold lim; decide⟩]
   rw [List.getLast?_eq_getElem?,← List.getElem?_map]
   congr 1
   simp
   exact ar (.e (.t (.a (.g K1) (.a (.u N0) K1))) N0) 1 [_] []
theorem c_ul_at (C : Calls call) (B : Buf H w σ) (un : σ.un = true) (hl : σ.rows.length ≤ lim) (h : Q (.bool (atB σ.rows)) H) : call (n + 1) .ul_at [.ref w.u] H Q := by
 refine enter C (as := [_]) (b := b_ul_at) rfl rfl rfl ?_
 have hu := B.u un
 have hr := B.ul un
 refine s_ret (v := .bool (atB σ.rows)) ?_ h
 have hn := last_get hl
 unfold atB
 cases e : σ.rows with
 | nil =>
   rw [e] at hr
   simp [hu,hr]
 | cons a l =>
   rw [e] at hr hn hl
   have : ¬ ((l.length : Int) + 1 = 0) := by exact ar (.i (.E (.a (.u N0) K1) K0) .f) 1 [_] []
   have hl' : l.length + 1 ≤ lim := by simpa using hl
   obtain ⟨r,er⟩ : ∃ r,(a :: l).getLast? = some r := ⟨_,List.getLast?_eq_some_getLast (List.cons_ne_nil a l)⟩
   rw [er] at hn
   simp only [List.map_cons] at hr hn
   simp [hu,hr,hn,this,hl',er]
end

end P_C9

section P_C10
open PySem

noncomputable def addB (l : List Row) : List Row := if atB l = true then l else l ++ [.bnd]
noncomputable def Sg.st (σ : Sg) (m : Bool) (tick : Int) : Sg := if m = false ∧ σ.nt ≠ some tick then { σ with rows := σ.rows ++ [.unm tick],nt := some tick } else σ
noncomputable def lastIns (l : List Row) : Bool := match l.getLast? with
 | some (.ins _ _) => true
 | _ => false
noncomputable def mrks : List (Addr × Int) → List Row
 | [] => []
 | (k,d) :: r => if d = 0 then mrks r else .mrk k d :: mrks r
noncomputable def pntRow (first : Bool) (pb : Option Int) (s : Int) : List Row := match first,pb with
 | true,some p => if p = s then [] else [.pnt p]
 | _,_ => []
section
variable {call : Nat → Fn → List AV → AHeap → (AV → AHeap → Prop) → Prop} {n : Nat} {H H' : AHeap} {w : Wh} {σ σ' : Sg} {Q : AV → AHeap → Prop} {t : List Int}
theorem map_snoc (l : List Row) (r : Row) : l.map Row.av ++ [r.av] = (l ++ [r]).map Row.av := by simp
theorem c_ul_boundary (C : Calls call) (B : Buf H w σ) (un : σ.un = true) (hl : σ.rows.length < lim) (h : ∀ H',Go w σ H { σ with rows := addB σ.rows } H' → Q .none H') : call (n + 2) .ul_boundary [.ref w.u] H Q := by
 refine enter C (as := [_]) (b := b_ul_boundary) rfl rfl rfl ?_
 have hu := B.u un
 have hr := B.ul un
 refine s_iteE (e_meth (x := w.u) (by rfl) hu rfl rfl (vs := []) rfl (c_ul_at C B un (Nat.le_of_lt hl) ⟨λ z => ?_,λ z => ?_⟩))
 · have z : atB σ.rows = false := by simpa using z
   refine s_expr (e_append (x := σ.ul) (u := Row.bnd.av) (v_at rfl hu rfl) hr rfl (by simpa using hl) (s_back ?_))
   rw [map_snoc]
   have e : addB σ.rows = σ.rows ++ [.bnd] := by unfold addB; rw [z]; rfl
   exact h _ (e ▸ B.setL un)
 · have z : atB σ.rows = true := by simpa using z
   have e : addB σ.rows = σ.rows := by unfold addB; rw [z]; rfl
   exact s_back (h _ (by rw [e]; exact Go.refl B))
theorem c_ul_begin (C : Calls call) (B : Buf H w σ) (un : σ.un = true) {p : Int} (h : ∀ H',Go w σ H { σ with pb := some p } H' → Q .none H') : call (n + 1) .ul_begin [.ref w.u,.int p] H Q := by
 refine enter C (as := [_,_]) (b := b_ul_begin) rfl rfl rfl ?_
 have hu := B.u un
 exact s_setAttr (x := w.u) (u := oi (some p)) (by rfl) (by rfl) hu rfl (by decide) rfl (h _ (B.pb un (some p)))
theorem c_ul_state (C : Calls call) (B : Buf H w σ) (un : σ.un = true) (hl : σ.rows.length < lim) {m : Bool} {tick : Int} (h : ∀ H',Go w σ H (σ.st m tick) H' → Q .none H') : call (n + 1) .ul_state [.ref w.u,.bool m,.int tick] H Q := by
 refine enter C (as := [_,_,_]) (b := b_ul_state) rfl rfl rfl ?_
 have hu := B.u un
 have hr := B.ul un
 by_cases hc : m = false ∧ σ.nt ≠ some tick
 · have e : σ.st m tick = { σ with rows := σ.rows ++ [.unm tick],nt := some tick } := if_pos hc
   rw [e] at h
   obtain ⟨rfl,hc⟩ := hc
   refine s_iteT ?_ ?_
   · cases q : σ.nt with
     | none => simp [hu,q]
     | some i => rw [q] at hc; have : ¬ tick = i := λ z => hc (by rw [z]); simp [hu,q,this]
   · refine s_expr (e_append (x := σ.ul) (u := (Row.unm tick).av) (v_at rfl hu rfl) hr rfl (by simpa using hl) ?_)
     rw [map_snoc]
     have G := B.setL (rows := σ.rows ++ [.unm tick]) un
     generalize H.set σ.ul _ = H1 at *
     have hu1 := G.buf.u un
     exact s_setAttr (x := w.u) (u := oi (some tick)) (by rfl) (by rfl) hu1 rfl (by decide) rfl (s_back (h _ (G.trans (G.buf.nt un (some tick)))))
 · have e : σ.st m tick = σ := if_neg hc
   rw [e] at h
   refine s_skip ?_ (h _ (Go.refl B))
   cases m with
   | true => exact (w_and (w_no (w_nT rfl) rfl))
   | false =>
     have hq : σ.nt = some tick := by
       cases q : decide (σ.nt = some tick) with
       | true => exact of_decide_eq_true q
       | false => exact absurd ⟨rfl,of_decide_eq_false q⟩ hc
     simp [hu,hq]
theorem st_un (m : Bool) (tick : Int) : (σ.st m tick).un = σ.un := by unfold Sg.st; split <;> rfl
theorem st_len (m : Bool) (tick : Int) : (σ.st m tick).rows.length ≤ σ.rows.length + 1 := by unfold Sg.st; split <;> simp
theorem row_ins (r : Row) (h : ∀ a b,r ≠ .ins a b) (ρ : Locals) (hr : ρ 6 = some r.av) : evT H ρ (.and [.cmp .eq (.idx (.var 6) (.int 0)) (.str .insert),.cmp .eq (.idx (.var 6) (.int 2)) (.var 1)]) = some false := by
 cases r <;> first | exact absurd rfl (h _ _) | exact (w_and (w_no (w_cmp (v_idx hr rfl rfl) rfl rfl) rfl))
theorem c_ul_insert (C : Calls call) (B : Buf H w σ) (un : σ.un = true) (hl : σ.rows.length + 2 < lim) {s k p : Int} {m : Bool} {tick : Int} (hk : k ≠ 0) (hi : lastIns (σ.st m tick).rows = false)
   (h : ∀ H',Go w σ H { σ.st m tick with rows := (σ.st m tick).rows ++ [.ins s (s + k)] } H' → Q .none H') : call (n + 2) .ul_insert [.ref w.u,.int s,.int k,.int p,.bool m,.int tick] H Q := by
 refine enter C (as := [_,_,_,_,_,_]) (b := b_ul_insert) rfl rfl rfl ?_
 have hu := B.u un
 refine s_skip (w_or (w_go (w_nT (w_at (v_at rfl hu rfl))) (w_go (wq (w_cmp rfl rfl rfl) (beq_false_of_ne hk)) rfl))) ?_
 refine s_expr (e_meth (x := w.u) (by rfl) hu rfl rfl (vs := [.bool m,.int tick]) (by rfl) (c_ul_state C B un (by exact (ar (.i (.t (.a N0 K2) N1) (.t N0 N1)) 2 [_,_] []) hl) λ H1 G => ?_))
 have hl1 := st_len (σ := σ) m tick
 have un1 := (st_un (σ := σ) m tick).trans un
 generalize σ.st m tick = σ1 at *
 have hu1 := G.buf.u un1
 have hr1 := G.buf.ul un1
 have last : ∀ r : Row,(∀ a b,r ≠ .ins a b) → mSs (call (n + 1)) [.ite (.and [(.cmp .eq (.idx (.var 6) (.int 0)) (.str .insert)),(.cmp .eq (.idx (.var 6) (.int 2)) (.var 1))]) [.setIdx (.attr (.var 0) .rows) (.neg (.int 1)) (.tup [(.str .insert),(.idx (.var 6) (.int 1)),(.bin .add (.var 1) (.var 2))])] [.expr (.append (.attr (.var 0) .rows) (.tup [(.str .insert),(.var 1),(.bin .add (.var 1) (.var 2))]))]]
     (upd (argL [.ref w.u,.int s,.int k,.int p,.bool m,.int tick]) 6 r.av) H1 (λ mf _ H' => match mf with | .next => Q .none H' | .ret v => Q v H') := by
   intro r hr
   refine s_iteF (row_ins r hr _ rfl) (s_expr (e_append (x := σ1.ul) (u := (Row.ins s (s + k)).av) (v_at rfl hu1 rfl) hr1 (by rfl) (by simp; exact (ar (.i (.l N0 (.a N1 K1)) (.i (.t (.a N1 K2) N2) (.t N0 N2))) 3 [_,_,_] []) hl1 hl) (s_back ?_)))
   rw [map_snoc]
   exact h _ (G.trans (G.buf.setL un1))
 refine s_assignE (e_ife (p := decide (σ1.rows.length > 0)) ?_ (λ z => ?_) (λ z => ?_))
 · have : σ1.rows.length ≤ lim := by exact (ar (.i (.l N0 (.a N1 K1)) (.i (.t (.a N1 K2) N2) (.l N0 N2))) 3 [_,_,_] []) hl1 hl
   simp [hu1,hr1,this]
 · have z : 0 < σ1.rows.length := of_decide_eq_true z
   have hn := last_get (l := σ1.rows) (by exact (ar (.i (.l N0 (.a N1 K1)) (.i (.t (.a N1 K2) N2) (.l N0 N2))) 3 [_,_,_] []) hl1 hl)
   obtain ⟨r,er⟩ : ∃ r,σ1.rows.getLast? = some r := by
     cases e : σ1.rows with
     | nil => rw [e] at z; cases z
     | cons a l => exact ⟨_,List.getLast?_eq_some_getLast (List.cons_ne_nil a l)⟩
   rw [er] at hn
   refine ev_ok _ (v := r.av) (v_idl (v_at rfl hu1 rfl) rfl hr1 hn) (last r λ a b z => ?_)
   subst z
   unfold lastIns at hi
   rw [er] at hi; exact tf hi
 · exact last .bnd (λ _ _ z => by cases z)
end

end P_C10

section P_C11
open PySem

noncomputable def pcF (c r : Addr) : At → Option AV
 | .codes => some (.ref c) | .runs => some (.ref r) | _ => none
@[simp] theorem pcF_codes (c r : Addr) : pcF c r .codes = some (.ref c) := rfl
@[simp] theorem pcF_runs (c r : Addr) : pcF c r .runs = some (.ref r) := rfl
structure Pc (H : AHeap) (a : Addr) (l : List Int) : Prop where
 ex : ∃ d c r,H a = some (.inst .piece 2 d (pcF c r)) ∧ H c = some (.list (il l)) ∧ H r = some (.list [])
noncomputable def tups (l : List (Addr × Int)) : List AV := l.map λ p => .tup [.ref p.1,.int p.2]
section
variable {call : Nat → Fn → List AV → AHeap → (AV → AHeap → Prop) → Prop} {n : Nat} {H H' : AHeap} {w : Wh} {σ σ' : Sg} {Q : AV → AHeap → Prop} {t : List Int}
theorem mrks_len : ∀ l : List (Addr × Int),(mrks l).length ≤ l.length
 | [] => Nat.le_refl _
 | (k,d) :: r => by
   unfold mrks
   have := mrks_len r
   split <;> simp <;> (first | exact (ar (.i (.l N0 N1) (.l N0 (.a N1 K1))) 2 [_,_] []) this | exact (ar (.i (.l N0 N1) (.l N0 N1)) 2 [_,_] []) this)
theorem mrk_loop {call : Fn → List AV → AHeap → (AV → AHeap → Prop) → Prop} {x : Addr} {L : List AV} {Q : SPost} (un : σ.un = true) : ∀ (l : List (Addr × Int)) (pre : List Row) (ρ' : Locals) (H' : AHeap),σ.rows.length + l.length < lim → ρ' 0 = some (.ref w.u) →
     Buf H' w σ → H' x = some (.list L) → ¬ Ow w σ x → (∀ ρ'' H'',(∀ i,i ≠ 8 → i ≠ 9 → ρ'' i = ρ' i) → Go w σ H' { σ with rows := σ.rows ++ mrks l } H'' → Q .next ρ'' H'') →
     mFor (bindT [8,9] false) (λ H' => H' x = some (.list L)) (λ ρ' H' Q' => mSs call [.ite (.cmp .ne (.var 9) (.int 0)) [.expr (.append (.attr (.var 0) .rows) (.tup [(.str .marker),(.var 8),(.var 9)]))] []] ρ' H' Q') (tups l) ρ' H' Q := by
 intro l
 induction l generalizing σ with
 | nil =>
   intro pre ρ' H' hl r0 B hx nx h
   refine h ρ' H' (λ _ _ _ => rfl) ?_
   have : ({ σ with rows := σ.rows ++ mrks [] } : Sg) = σ := by simp [mrks]
   rw [this]; exact Go.refl B
 | cons p l ih =>
   intro pre ρ' H' hl r0 B hx nx h
   obtain ⟨k,d⟩ := p
   have hu := B.u un
   have hr := B.ul un
   refine ⟨_,bindT_more [8,9] [.ref k,.int d] ρ' rfl, ?_⟩
   have hl' : σ.rows.length + l.length + 1 < lim := hl
   by_cases hd : d = 0
   · refine s_skip (by simp [hd]) ⟨hx,ih un pre _ H' (by exact (ar (.i (.t (.a (.a N0 N1) K1) N2) (.t (.a N0 N1) N2)) 3 [_,_,_] []) hl') (by assumption) B hx nx λ ρ'' H'' hρ G => h ρ'' H'' (λ i h8 h9 => ?_) ?_⟩
     · rw [hρ i h8 h9]; simp [h8,h9]
     · have : mrks ((k,d) :: l) = mrks l := by unfold mrks; rw [if_pos hd]; cases l <;> rfl
       rw [this]; exact G
   · refine s_iteT (by simp [hd]) (s_expr (e_append (x := σ.ul) (u := (Row.mrk k d).av) (v_at r0 hu rfl) hr (by rfl) (by simp; exact (ar (.i (.t (.a N0 N1) N2) (.t N0 N2)) 3 [_,_,_] []) hl) (s_back ?_)))
     rw [map_snoc]
     have G := B.setL (rows := σ.rows ++ [.mrk k d]) un
     generalize H'.set σ.ul _ = H1 at *
     obtain ⟨hx1,nx1⟩ := G.ext x _ hx nx
     refine ⟨hx1,ih (σ := { σ with rows := σ.rows ++ [.mrk k d] }) un pre _ H1 (by simp; exact (ar (.i (.t (.a (.a N0 N1) K1) N2) (.t (.a (.a N0 K1) N1) N2)) 3 [_,_,_] []) hl') (by assumption) G.buf hx1 nx1 λ ρ'' H'' hρ G2 => h ρ'' H'' (λ i h8 h9 => ?_) ?_⟩
     · rw [hρ i h8 h9]; simp [h8,h9]
     · have : mrks ((k,d) :: l) = .mrk k d :: mrks l := by
         refine (?_ : (if d = 0 then mrks l else .mrk k d :: mrks l) = _)
         rw [if_neg hd]
       rw [this]
       have G3 := G.trans G2
       have e : σ.rows ++ [.mrk k d] ++ mrks l = σ.rows ++ .mrk k d :: mrks l := by simp
       rw [← e]; exact G3
theorem c_ul_delete (C : Calls call) (B : Buf H w σ) (un : σ.un = true) {s p tick : Int} {pc mk : Addr} {m : Bool} {l : List Int} {fr : List (Addr × Int)} (hp : Pc H pc l) (hmk : H mk = some (.list (tups fr))) (nm : ¬ Ow w σ mk) (hl : σ.rows.length + fr.length + 5 < lim) (h0 : l ≠ []) (hll : l.length ≤ 2000) (npc : ¬ Ow w σ pc)
   (nc : ∀ d c r,H pc = some (.inst .piece 2 d (pcF c r)) → ¬ Ow w σ c)
   (h : ∀ H',Go w σ H { σ.st m tick with rows := (σ.st m tick).rows ++ pntRow (atB σ.rows) σ.pb s ++ mrks fr ++ [.del s pc (decide (p = s + l.length))] } H' → Q .none H') : call (n + 2) .ul_delete [.ref w.u,.int s,.ref pc,.int p,.ref mk,.bool m,.int tick] H Q := by
 refine enter C (as := [_,_,_,_,_,_,_]) (b := b_ul_delete) rfl rfl rfl ?_
 obtain ⟨d,c,r,hpc,hc,hr'⟩ := hp.ex
 have ncc := nc d c r hpc
 have hu := B.u un
 have hll' : l.length ≤ lim := by unfold lim; exact (ar (.i (.l N0 (.k 2000)) (.l N0 KM)) 1 [_] []) hll
 have hl0 : ¬ ((l.length : Int) = 0) := by
   intro z
   exact h0 (List.eq_nil_of_length_eq_zero (by exact (ar (.i (.E (.u N0) K0) (.e N0 K0)) 1 [_] []) z))
 have hl0' : l ≠ [] := h0
 refine s_skip (w_or (w_go (w_nT (w_at (v_at rfl hu rfl))) (w_go (wq (w_cmp (v_ln (v_at rfl hpc rfl) hc (List.length_map _) hll') rfl rfl) (beq_false_of_ne hl0)) rfl))) ?_
 refine s_assignE (e_meth (x := w.u) (by rfl) hu rfl rfl (vs := []) rfl (c_ul_at C B un (by exact (ar (.i (.t (.a (.a N0 N1) K5) N2) (.l N0 N2)) 3 [_,_,_] []) hl) ?_))
 refine s_expr (e_meth (x := w.u) (by rfl) hu rfl rfl (vs := [.bool m,.int tick]) (by rfl) (c_ul_state C B un (by exact (ar (.i (.t (.a (.a N0 N1) K5) N2) (.t N0 N2)) 3 [_,_,_] []) hl) λ H1 G => ?_))
 have hl1 := st_len (σ := σ) m tick
 have un1 := (st_un (σ := σ) m tick).trans un
 have hpb : (σ.st m tick).pb = σ.pb := by unfold Sg.st; split <;> rfl
 obtain ⟨hpc1,_⟩ := G.ext pc _ hpc npc
 obtain ⟨hc1,ncc1⟩ := G.ext c _ hc ncc
 obtain ⟨hmk1,nm1⟩ := G.ext mk _ hmk nm
 generalize σ.st m tick = σ1 at *
 have hu1 := G.buf.u un1
 have hr1 := G.buf.ul un1
 have pnt : ∀ H2 rows2,rows2 = σ1.rows ++ pntRow (atB σ.rows) σ.pb s → Go w σ H { σ1 with rows := rows2 } H2 →
     mSs (call (n + 1)) [.forList [8,9] false (.var 4) [.ite (.cmp .ne (.var 9) (.int 0)) [.expr (.append (.attr (.var 0) .rows) (.tup [(.str .marker),(.var 8),(.var 9)]))] []],
 .expr (.append (.attr (.var 0) .rows) (.tup [(.str .delete),(.var 1),(.var 2),(.cmp .eq (.var 3) (.bin .add (.var 1) (.len (.attr (.var 2) .codes))))]))] (upd (argL [.ref w.u,.int s,.ref pc,.int p,.ref mk,.bool m,.int tick]) 7 (.bool (atB σ.rows))) H2 (λ mf _ H' => match mf with | .next => Q .none H' | .ret v => Q v H') := by
   intro H2 rows2 e2 G2
   obtain ⟨hpc2,npc2⟩ := G2.ext pc _ hpc npc
   obtain ⟨hc2,ncc2⟩ := G2.ext c _ hc ncc
   obtain ⟨hmk2,nm2⟩ := G2.ext mk _ hmk nm
   have hrl : rows2.length ≤ σ1.rows.length + 1 := by
     rw [e2,List.length_append]
     have : (pntRow (atB σ.rows) σ.pb s).length ≤ 1 := by
       unfold pntRow
       split
       · split <;> simp
       · simp
     exact (ar (.i (.l N0 K1) (.l (.a N1 N0) (.a N1 K1))) 2 [_,_] []) this
   refine s_for (l := mk) (by rfl) hmk2 (mrk_loop (σ := { σ1 with rows := rows2 }) un1 fr [] _ H2 (by refine (?_ : rows2.length + _ < _); exact (ar (.i (.l N0 (.a N1 K1)) (.i (.l N1 (.a N2 K1)) (.i (.t (.a (.a N2 N3) K5) N4) (.t (.a N0 N3) N4)))) 5 [_,_,_,_,_] []) hrl hl1 hl) rfl G2.buf hmk2 nm2 λ ρ3 H3 hρ G3 => ?_)
   have hu3 := G3.buf.u un1
   have hr3 := G3.buf.ul un1
   obtain ⟨hpc3,_⟩ := G3.ext pc _ hpc2 npc2
   obtain ⟨hc3,_⟩ := G3.ext c _ hc2 ncc2
   have r0 : ρ3 0 = some (.ref w.u) := (hρ 0 (by decide) (by decide)).trans rfl
   have r1 : ρ3 1 = some (.int s) := (hρ 1 (by decide) (by decide)).trans rfl
   have r2 : ρ3 2 = some (.ref pc) := (hρ 2 (by decide) (by decide)).trans rfl
   have r3 : ρ3 3 = some (.int p) := (hρ 3 (by decide) (by decide)).trans rfl
   have hml := mrks_len fr
   refine s_expr (e_append (x := σ1.ul) (u := (Row.del s pc (decide (p = s + l.length))).av) (v_at r0 hu3 rfl) hr3 ?_ (by simp; exact (ar (.i (.l N0 (.a N1 K1)) (.i (.l N1 (.a N2 K1)) (.i (.l N3 N4) (.i (.t (.a (.a N2 N4) K5) N5) (.t (.a N0 N3) N5))))) 6 [_,_,_,_,_,_] []) hrl hl1 hml hl) ?_)
   · have e : (p == s + (l.length : Int)) = decide (p = s + l.length) := rfl
     simp [r1,r2,r3,hpc3,hc3,hll',Row.av,e]
   · rw [map_snoc]
     refine h _ (G2.trans (G3.trans ?_))
     have := G3.buf.setL (rows := σ1.rows ++ pntRow (atB σ.rows) σ.pb s ++ mrks fr ++ [.del s pc (decide (p = s + l.length))]) un1
     rw [e2]
     rw [e2] at this
     exact this
 by_cases hcase : atB σ.rows = true ∧ ∃ q,σ.pb = some q ∧ q ≠ s
 · obtain ⟨ha,q,hq,hqs⟩ := hcase
   have e : pntRow (atB σ.rows) σ.pb s = [.pnt q] := by rw [ha,hq]; exact if_neg hqs
   refine s_iteT (by simp [hu1,ha,hpb,hq,hqs]) (s_expr (e_append (x := σ1.ul) (u := (Row.pnt q).av) (v_at rfl hu1 rfl) hr1 (by simp [hu1,hpb,hq,Row.av]) (by simp; exact (ar (.i (.l N0 (.a N1 K1)) (.i (.t (.a (.a N1 N2) K5) N3) (.t N0 N3))) 4 [_,_,_,_] []) hl1 hl) (s_back ?_)))
   rw [map_snoc]
   exact pnt _ _ (by rw [e]) (G.trans (G.buf.setL un1))
 · have e : pntRow (atB σ.rows) σ.pb s = [] := by
     unfold pntRow
     split
     · rename_i q h1 h2
       by_cases z : q = s
       · rw [if_pos z]
       · exact absurd ⟨h1,q,h2,z⟩ hcase
     · rfl
   refine s_skip ?_ (pnt H1 σ1.rows (by rw [e]; simp) G)
   cases ha : atB σ.rows with
   | false => exact (w_and (w_no rfl rfl))
   | true =>
     cases hq : σ.pb with
     | none => simp [hu1,hpb,hq]
     | some q =>
       have hqs : q = s := by
         cases z : decide (q = s) with
         | true => exact of_decide_eq_true z
         | false => exact absurd ⟨ha,q,hq,of_decide_eq_false z⟩ hcase
       simp [hu1,hpb,hq,hqs]
end

end P_C11

section P_C12
open PySem

noncomputable def ren (elder fresh : Int) (r : Row) : Row := match r with
 | .unm t => if t = elder then .unm fresh else r
 | _ => r
structure PcN (w : Wh) (σ : Sg) (H : AHeap) (a : Addr) (l : List Int) : Prop where
 ex : ∃ d c r,H a = some (.inst .piece 2 d (pcF c r)) ∧ H c = some (.list (il l)) ∧ H r = some (.list []) ∧ ¬ Ow w σ a ∧ ¬ Ow w σ c ∧ ¬ Ow w σ r
structure PcF (H₀ : AHeap) (w : Wh) (σ : Sg) (H : AHeap) (a : Addr) (l : List Int) : Prop where
 ex : ∃ d c r,H a = some (.inst .piece 2 d (pcF c r)) ∧ H c = some (.list (il l)) ∧ H r = some (.list []) ∧ ¬ Ow w σ a ∧ ¬ Ow w σ c ∧ ¬ Ow w σ r ∧ H₀ a = none ∧ H₀ c = none ∧ H₀ r = none
section
variable {call : Nat → Fn → List AV → AHeap → (AV → AHeap → Prop) → Prop} {n : Nat} {H H' : AHeap} {w : Wh} {σ σ' : Sg} {Q : AV → AHeap → Prop} {t : List Int}
theorem PcN.go {a : Addr} {l : List Int} (p : PcN w σ H a l) (G : Go w σ H σ' H') : PcN w σ' H' a l := by
 obtain ⟨d,c,r,h1,h2,h3,n1,n2,n3⟩ := p.ex
 obtain ⟨a1,a2⟩ := G.ext _ _ h1 n1
 obtain ⟨b1,b2⟩ := G.ext _ _ h2 n2
 obtain ⟨c1,c2⟩ := G.ext _ _ h3 n3
 exact ⟨d,c,r,a1,b1,c1,a2,b2,c2⟩
theorem PcF.pc {H₀ : AHeap} {a : Addr} {l : List Int} (p : PcF H₀ w σ H a l) : PcN w σ H a l := by
 obtain ⟨d,c,r,h1,h2,h3,n1,n2,n3,_⟩ := p.ex
 exact ⟨d,c,r,h1,h2,h3,n1,n2,n3⟩
theorem PcF.go {H₀ : AHeap} {a : Addr} {l : List Int} (p : PcF H₀ w σ H a l) (G : Go w σ H σ' H') : PcF H₀ w σ' H' a l := by
 obtain ⟨d,c,r,h1,h2,h3,n1,n2,n3,f⟩ := p.ex
 obtain ⟨a1,a2⟩ := G.ext _ _ h1 n1
 obtain ⟨b1,b2⟩ := G.ext _ _ h2 n2
 obtain ⟨c1,c2⟩ := G.ext _ _ h3 n3
 exact ⟨d,c,r,a1,b1,c1,a2,b2,c2,f⟩
theorem PcF.base {H₀ H₁ : AHeap} {a : Addr} {l : List Int} (p : PcF H₁ w σ H a l) (h : ∀ x,H₁ x = none → H₀ x = none) : PcF H₀ w σ H a l := by
 obtain ⟨d,c,r,h1,h2,h3,n1,n2,n3,f1,f2,f3⟩ := p.ex
 exact ⟨d,c,r,h1,h2,h3,n1,n2,n3,h _ f1,h _ f2,h _ f3⟩
theorem Go.none (G : Go w σ H σ' H') (o : ∀ a,Ow w σ a → Ow w σ' a) {x : Addr} (h : H' x = none) : H x = none := by
 cases q : H x with
 | none => rfl
 | some y =>
   have nx : ¬ Ow w σ x := λ z => G.buf.new h (o x z)
   rw [(G.ext x y q nx).1] at h; exact sn h
theorem ren_row (r : Row) (elder fresh : Int) (ρ : Locals) (h1 : ρ 101 = some r.av) (h2 : ρ 3 = some (Row.unm elder).av) (h3 : ρ 2 = some (.int fresh)) {call : Fn → List AV → AHeap → (AV → AHeap → Prop) → Prop} {H : AHeap} {P : AV → AHeap → Prop} (p : P (ren elder fresh r).av H) :
   mE call (.ife (.cmp .eq (.var 101) (.var 3)) (.tup [(.str .unmodified),(.var 2)]) (.var 101)) ρ H P := by
 by_cases z : r = .unm elder
 · subst z
   have e : ren elder fresh (.unm elder) = .unm fresh := if_pos rfl
   rw [e] at p
   have c : cmpv H .eq (Row.unm elder).av (Row.unm elder).av = some true := by
     have : cmpv H .eq (Row.unm elder).av (Row.unm elder).av = some (elder == elder) := by
       refine (?_ : eqvs (eqv H 4) [.str .unmodified,.int elder] [.str .unmodified,.int elder] = _)
       refine (?_ : (match some (elder == elder) with | some true => some true | r => r) = _)
       cases elder == elder <;> rfl
     rw [this]; simp
   exact e_ife (p := true) (w_cmp h1 h2 c) (λ _ => ev_ok _ (v := (Row.unm fresh).av) (by simp [h3,Row.av]) p) λ z => by exact tf z
 · have e : ren elder fresh r = r := by
     cases r <;> first | rfl | skip
     rename_i t
     exact if_neg λ q => z (by rw [q])
   rw [e] at p
   have c : cmpv H .eq r.av (Row.unm elder).av = some false := by
     cases r <;> first | rfl | skip
     rename_i t
     have hn : ¬ t = elder := λ q => z (by rw [q])
     refine (?_ : eqvs (eqv H 4) [.str .unmodified,.int t] [.str .unmodified,.int elder] = _)
     have hb : (t == elder) = false := by simpa using hn
     refine (?_ : (match some (t == elder) with | some true => some true | r => r) = _)
     rw [hb]
   exact e_ife (p := false) (w_cmp h1 h2 c) (λ z => by exact ft z) λ _ => ev_ok _ (v := r.av) (by assumption) p
theorem ren_comp {call : Fn → List AV → AHeap → (AV → AHeap → Prop) → Prop} {H : AHeap} {ρ : Locals} {elder fresh : Int} {same : AHeap → Prop} {k : List AV → AHeap → Prop} (hs : same H) (h2 : ρ 3 = some (Row.unm elder).av) (h3 : ρ 2 = some (.int fresh)) : ∀ (l : List Row) (acc : List AV),acc.length + l.length ≤ lim → k (acc ++ (l.map (ren elder fresh)).map Row.av) H →
   mComp (bindT [101] true) ρ (λ ρ' H k => mC call Option.none ρ' H k) (λ ρ' H k => mE call (.ife (.cmp .eq (.var 101) (.var 3)) (.tup [(.str .unmodified),(.var 2)]) (.var 101)) ρ' H k) same (l.map Row.av) acc H k
 | [],acc,hl,h => by
   have h : k (acc ++ []) H := h
   rw [List.append_nil] at h; exact h
 | r :: l,acc,hl,h => by
   refine ⟨_,rfl, ?_⟩
   refine (?_ : mE call _ (upd ρ 101 r.av) H _)
   refine ren_row r elder fresh _ (by rfl) (by assumption) (by assumption) ⟨hs,by simp at hl; exact (ar (.i (.l (.a N0 (.a N1 K1)) N2) (.t N0 N2)) 3 [_,_,_] []) hl,ren_comp hs h2 h3 l _ (by simp at hl ⊢; exact (ar (.i (.l (.a N0 (.a N1 K1)) N2) (.l (.a (.a N0 K1) N1) N2)) 3 [_,_,_] []) hl) ?_⟩
   simpa using h
theorem c_ul_renew (C : Calls call) (B : Buf H w σ) (un : σ.un = true) (hl : σ.rows.length ≤ lim) {elder fresh : Int} (h : ∀ H' x,Go w σ H { σ with ul := x,rows := σ.rows.map (ren elder fresh) } H' → Q .none H') : call (n + 1) .ul_renew [.ref w.u,.int elder,.int fresh] H Q := by
 refine enter C (as := [_,_,_]) (b := b_ul_renew) rfl rfl rfl ?_
 have hu := B.u un
 have hr := B.ul un
 refine s_assign (v := (Row.unm elder).av) (by rfl) ?_
 refine s_setAttrE (e_comp (l := σ.ul) (v_at rfl hu rfl) hr (ren_comp (elder := elder) (fresh := fresh) (ρ := upd (argL [.ref w.u,.int elder,.int fresh]) 3 (Row.unm elder).av) hr (by rfl) (by rfl) σ.rows [] (by simpa using hl) λ x hx => ?_))
 have hux : w.u ≠ x := λ z => by rw [← z,hu] at hx; exact sn hx
 refine ev_ok _ (v := .ref w.u) (by rfl) ?_
 refine at_setOld (P := λ H' => mSs (call n) [] _ H' _) (at_other hu hux) rfl (by decide) rfl ?_
 exact h _ x (B.nrows un (σ.rows.map (ren elder fresh)) hx)
theorem c_codes (C : Calls call) (B : Buf H w σ) (X : Txt σ t) {s e : Int} (h0 : 1 ≤ s) (h1 : s ≤ e) (h2 : e ≤ t.length + 1)
   (h : ∀ x H',H x = none → Go w σ H σ H' → H' x = some (.list (il ((t.take (e - 1).toNat).drop (s - 1).toNat))) → ¬ Ow w σ x → Q (.ref x) H') : call (n + 2) .buf_codes [.ref w.b,.int s,.int e] H Q := by
 refine enter C (as := [_,_,_]) (b := b_buf_codes) rfl rfl rfl ?_
 have hb := B.b
 have hg := B.g
 exact s_retE (e_meth (x := w.g) (v_at rfl hb rfl) hg rfl rfl (vs := [.int (s - 1),.int (e - 1)]) (by rfl) (c_gap_codes C B X (by exact (ar (.i (.L K1 Z0) (.L K0 (.s Z0 K1))) 1 [] [_]) h0) (by exact (ar (.i (.L Z0 Z1) (.L (.s Z0 K1) (.s Z1 K1))) 2 [] [_,_]) h1) (by exact (ar (.i (.L Z0 (.a (.u N0) K1)) (.L (.s Z0 K1) (.u N0))) 1 [_] [_]) h2) h))
theorem c_rec_comes (C : Calls call) (B : Buf H w σ) (un : σ.un = true) (hl : σ.rows.length + 2 < lim) {s k : Int} (hk : k ≠ 0) (hi : lastIns (σ.st (decide (σ.sv < σ.tk)) σ.sv).rows = false)
   (h : ∀ H',Go w σ H { σ.st (decide (σ.sv < σ.tk)) σ.sv with rows := (σ.st (decide (σ.sv < σ.tk)) σ.sv).rows ++ [.ins s (s + k)] } H' → Q .none H') : call (n + 3) .rec_comes [.ref w.rc,.ref w.b,.int s,.int k] H Q := by
 refine enter C (as := [_,_,_,_]) (b := b_rec_comes) rfl rfl rfl ?_
 have hb := B.b
 have hrc := B.rc un
 have hu := B.u un
 refine s_expr (e_methE (x := w.u) (v_at rfl hrc rfl) hu rfl rfl ?_)
 refine es_cons (v := .int s) (by rfl) (es_cons (v := .int k) (by rfl) (es_cons (v := .int σ.pt) (v_at rfl hb rfl) (es_consE (e_meth (x := w.b) (by rfl) hb rfl rfl (vs := []) rfl (c_is_modified C B ?_)))))
 exact es_cons (v := .int σ.sv) (v_at rfl hb rfl) (es_nil (c_ul_insert C B un hl hk hi h))
noncomputable def frOf (s e : Int) (l : List Mk) : List (Addr × Int) := (l.filter (inside s e)).map λ r => (r.k,dist s e r)
theorem dist_loop (C : Calls call) {x xm : Addr} {L : List AV} {s e : Int} {Qs : SPost} (B0 : Buf H w σ) (h0 : H xm = none) : ∀ (l : List Mk) (acc : List (Addr × Int)) (ρ' : Locals) (H' : AHeap),(∀ r ∈ l,r ∈ σ.ms) → acc.length + l.length < lim → ρ' 2 = some (.int s) → ρ' 3 = some (.int e) → ρ' 6 = some (.ref xm) →
     Go w σ H σ H' → x ≠ xm → H' x = some (.list L) → H' xm = some (.list (tups acc)) → ¬ Ow w σ xm →
     (∀ ρ'' H'',(∀ i,i ≠ 7 → ρ'' i = ρ' i) → Go w σ H σ H'' → H'' xm = some (.list (tups (acc ++ l.map λ r => (r.k,dist s e r)))) → (∀ a o,a ≠ xm → H' a = some o → H'' a = some o) → Qs .next ρ'' H'') →
     mFor (bindT [7] true) (λ H' => H' x = some (.list L)) (λ ρ' H' Q' => mSs (call (n + 1)) [.expr (.append (.var 6) (.tup [(.var 7),(.call .marker_distance [(.attr (.var 7) .position),(.var 2),(.var 3),(.attr (.var 7) .advances)])]))] ρ' H' Q') (refs l) ρ' H' Qs
 | [],acc,ρ',H',hm,hl,r2,r3,r6,G,nx,hx,hxm,no,h => h ρ' H' (λ _ _ => rfl) G (by simpa using hxm) λ _ _ _ e => e
 | r :: l,acc,ρ',H',hm,hl,r2,r3,r6,G,nx,hx,hxm,no,h => by
   refine ⟨_,rfl, ?_⟩
   have hk := G.buf.mks r (hm r (.head _))
   refine s_expr (e_appendE (x := xm) (by assumption) hxm ?_)
   refine es_cons (v := .ref r.k) (by rfl) (es_consE (e_call (vs := [.int r.pos,.int s,.int e,.bool r.adv]) (v_cons (v_at rfl hk rfl) (v_cons r2 (v_cons r3 (v_cons (v_at rfl hk rfl) rfl)))) (c_marker_distance C (es_nil ?_))))
   simp only [hxm]
   refine ⟨?_, ?_⟩
   · simp only [tups,List.length_map]; simp at hl; exact (ar (.i (.t (.a N0 (.a N1 K1)) N2) (.t N0 N2)) 3 [_,_,_] []) hl
   have G' := G.poke (l' := tups (acc ++ [(r.k,dist s e r)])) h0 hxm no
   have e1 : tups acc ++ [.tup [.ref r.k,.int (dist s e r)]] = tups (acc ++ [(r.k,dist s e r)]) := by simp [tups]
   rw [e1]
   refine ⟨at_other hx nx,dist_loop (s := s) (e := e) C B0 h0 l (acc ++ [(r.k,dist s e r)]) _ _ (λ q hq => hm q (.tail _ hq)) (by simp at hl ⊢; exact (ar (.i (.t (.a N0 (.a N1 K1)) N2) (.t (.a (.a N0 K1) N1) N2)) 3 [_,_,_] []) hl) (by assumption) (by assumption) (by assumption) G' nx (at_other hx nx) at_self no λ ρ'' H'' hρ G'' hx'' keep => h ρ'' H'' (λ i hi => ?_) G'' (by simpa using hx'') λ a o na ha => keep a o na (at_other ha na)⟩
   rw [hρ i hi]; simp [hi]
end

end P_C12

section P_C13
open PySem

section
variable {call : Nat → Fn → List AV → AHeap → (AV → AHeap → Prop) → Prop} {n : Nat} {H H' : AHeap} {w : Wh} {σ σ' : Sg} {Q : AV → AHeap → Prop} {t : List Int}
theorem pc_init1 {c r : Addr} : setF (setF (λ _ => none) .codes (.ref c)) .runs (.ref r) = pcF c r := by funext a; cases a <;> rfl
theorem ms_le2 {l : List Mk} (ok : MsOk l) : l.length ≤ 2 := by
 match l,ok with
 | [],_ => simp
 | [a],_ => simp
 | [a,b],_ => simp
 | a :: b :: c :: l,ok => exact ft ok
theorem c_piece_init (C : Calls call) {x d c r : Addr} (h : Q .none (((H.set x (.inst .piece 0 d λ _ => none)).set x (.inst .piece 1 d (setF (λ _ => none) .codes (.ref c)))).set x (.inst .piece 2 d (pcF c r)))) :
   call (n + 1) .piece_init [.ref x,.ref c,.ref r] (H.set x (.inst .piece 0 d λ _ => none)) Q := by
 refine enter C (as := [_,_,_]) (b := b_piece_init) rfl rfl rfl ?_
 refine s_setNew (x := x) (u := .ref c) (by rfl) (by rfl) at_self rfl (by decide) rfl ?_
 refine s_setNew (x := x) (u := .ref r) (by rfl) (by rfl) at_self rfl (by decide) rfl ?_
 rw [pc_init1]
 exact h
theorem c_rec_goes (C : Calls call) (B : Buf H w σ) (un : σ.un = true) (ok : MsOk σ.ms) (X : Txt σ t) {s e : Int} (h1 : 1 ≤ s) (h2 : s < e) (h3 : e ≤ t.length + 1) (hl : σ.rows.length + 20 < lim)
   (h : ∀ H' pc,PcF H w { σ.st (decide (σ.sv < σ.tk)) σ.sv with rows := (σ.st (decide (σ.sv < σ.tk)) σ.sv).rows ++ pntRow (atB σ.rows) σ.pb s ++ mrks (frOf s e σ.ms) ++ [.del s pc (decide (σ.pt = e))] } H' pc ((t.take (e - 1).toNat).drop (s - 1).toNat) →
     Go w σ H { σ.st (decide (σ.sv < σ.tk)) σ.sv with rows := (σ.st (decide (σ.sv < σ.tk)) σ.sv).rows ++ pntRow (atB σ.rows) σ.pb s ++ mrks (frOf s e σ.ms) ++ [.del s pc (decide (σ.pt = e))] } H' → Q .none H') :
   call (n + 3) .rec_goes [.ref w.rc,.ref w.b,.int s,.int e] H Q := by
 refine enter C (as := [_,_,_,_]) (b := b_rec_goes) rfl rfl rfl ?_
 have hb := B.b
 have hrc := B.rc un
 have hu := B.u un
 refine s_skip (w_nT (w_at (v_at (v_at rfl hrc rfl) hu rfl))) ?_
 refine s_assignE (e_ife (p := true) (w_cmp (v_at rfl hb rfl) rfl rfl) (λ _ => e_lst (vs := []) rfl λ x4 hx4 => ?_) λ z => by exact tf z)
 have G4 := Go.new (o := .list []) B hx4
 have h4 : (H.set x4 (.list [])) x4 = some _ := at_self
 generalize H.set x4 _ = H4 at *
 refine s_assignE (e_comp (l := x4) (by rfl) h4 ?_)
 refine (?_ : ∀ x,H4 x = none → _)
 intro x5 hx5
 have G5 := G4.trans (Go.new (o := .list []) G4.buf hx5)
 have h5 : (H4.set x5 (.list [])) x5 = some _ := at_self
 have n5 : ¬ Ow w σ x5 := G4.buf.new hx5
 have h50 : H x5 = none := G4.none (λ _ o => o) hx5
 generalize H4.set x5 _ = H5 at *
 refine s_assignE (e_lst (vs := []) rfl λ x6 hx6 => ?_)
 have G6 := G5.trans (Go.new (o := .list []) G5.buf hx6)
 have h6 : (H5.set x6 (.list (tups []))) x6 = some _ := at_self
 have n6 : ¬ Ow w σ x6 := G5.buf.new hx6
 have h56 : (H5.set x6 (.list [])) x5 = some _ := keep_new hx6 _ _ h5
 have hx6' : H x6 = none := by
   cases q : H x6 with
   | none => rfl
   | some o => rw [(G5.ext x6 o q n6).1] at hx6; exact sn hx6
 have E6 : (H5.set x6 (.list [])) = H5.set x6 (.list (tups [])) := rfl
 rw [E6] at h56 G6 ⊢
 generalize H5.set x6 (.list (tups [])) = H6 at *
 have hb6 := G6.buf.b
 have hm6 := G6.buf.m
 refine s_forE (e_meth (x := w.m) (v_at rfl hb6 rfl) hm6 rfl rfl (vs := [.int s,.int e]) (by rfl) (c_mk_within C G6.buf ok λ x7 H7 hx7 G7 h7 n7 => for_at h7 ?_))
 have nx7 : x7 ≠ x6 := λ z => by rw [z,h6] at hx7; exact sn hx7
 have nx75 : x5 ≠ x6 := λ z => by rw [z] at h5; rw [h5] at hx6; exact sn hx6
 obtain ⟨h67,_⟩ := G7.ext x6 _ h6 n6
 obtain ⟨h57,_⟩ := G7.ext x5 _ h56 n5
 have hfl : (σ.ms.filter (inside s e)).length ≤ 2 := by
   exact Nat.le_trans (List.length_filter_le _ _) (ms_le2 ok)
 refine dist_loop (s := s) (e := e) C B hx6' (σ.ms.filter (inside s e)) [] _ H7 (λ r hr => (List.mem_filter.mp hr).1) (by simp; unfold lim; exact (ar (.i (.l N0 K2) (.t N0 KM)) 1 [_] []) hfl) (by rfl) (by rfl) (by rfl) (G6.trans G7) nx7 h7 h67 n6 λ ρ8 H8 hρ G8 h8 keep8 => ?_
 have r0 : ρ8 0 = some (.ref w.rc) := (hρ 0 (by decide)).trans rfl
 have r1 : ρ8 1 = some (.ref w.b) := (hρ 1 (by decide)).trans rfl
 have r2 : ρ8 2 = some (.int s) := (hρ 2 (by decide)).trans rfl
 have r3 : ρ8 3 = some (.int e) := (hρ 3 (by decide)).trans rfl
 have r5 : ρ8 5 = some (.ref x5) := (hρ 5 (by decide)).trans rfl
 have r6 : ρ8 6 = some (.ref x6) := (hρ 6 (by decide)).trans rfl
 have h58 := keep8 x5 _ nx75 h57
 rw [List.nil_append] at h8
 have hb8 := G8.buf.b
 clear hρ keep8 h67 h57 h7 h56 h6 h5 h4
 refine s_assignE (e_newE (es_consE (e_meth (x := w.b) (by assumption) hb8 rfl rfl (vs := [.int s,.int e]) (v_cons r2 (v_cons r3 rfl)) (c_codes C G8.buf X h1 (by exact (ar (.i (.T Z0 Z1) (.L Z0 Z1)) 2 [] [_,_]) h2) h3 λ x9 H9 hx9 G9 h9 n9 => ?_))))
 have h90 : H x9 = none := G8.none (λ _ o => o) hx9
 obtain ⟨h59,_⟩ := G9.ext x5 _ h58 n5
 obtain ⟨h69,_⟩ := G9.ext x6 _ h8 n6
 refine es_cons (v := .ref x5) (by assumption) (es_nil λ x d hx hd hxd => ?_)
 refine c_piece_init C ⟨rfl, ?_⟩
 have Gt := G8.trans G9
 have nxo : ¬ Ow w σ x := Gt.buf.new hx
 have hx0 : H x = none := by
   cases q : H x with
   | none => rfl
   | some o => rw [(Gt.ext x o q (λ z => nxo z)).1] at hx; exact sn hx
 have Gp := ((Gt.trans (Go.new (o := .inst .piece 0 d λ _ => none) Gt.buf hx)).pokeO (o' := .inst .piece 1 d (setF (λ _ => none) .codes (.ref x9))) hx0 at_self ff ff nxo).pokeO (o' := .inst .piece 2 d (pcF x9 x5)) hx0 at_self ff ff nxo
 have keep : ∀ a o,H9 a = some o → ((((H9.set x (.inst .piece 0 d λ _ => none)).set x (.inst .piece 1 d (setF (λ _ => none) .codes (.ref x9)))).set x (.inst .piece 2 d (pcF x9 x5)))) a = some o := λ a o ea => by
   have na : a ≠ x := λ z => by rw [z,hx] at ea; exact nn ea
   exact at_other (at_other (at_other ea na) na) na
 have hx10 : ((((H9.set x (.inst .piece 0 d λ _ => none)).set x (.inst .piece 1 d (setF (λ _ => none) .codes (.ref x9)))).set x (.inst .piece 2 d (pcF x9 x5)))) x = some (.inst .piece 2 d (pcF x9 x5)) := at_self
 have h9' := keep x9 _ h9
 have h5' := keep x5 _ h59
 have h6' := keep x6 _ h69
 clear keep
 generalize (((H9.set x (.inst .piece 0 d λ _ => none)).set x (.inst .piece 1 d (setF (λ _ => none) .codes (.ref x9)))).set x (.inst .piece 2 d (pcF x9 x5))) = H10 at *
 have hb10 := Gp.buf.b
 have hrc10 := Gp.buf.rc un
 have hu10 := Gp.buf.u un
 refine s_expr (e_methE (x := w.u) (v_at r0 hrc10 rfl) hu10 rfl rfl ?_)
 refine es_cons (v := .int s) (by assumption) (es_cons (v := .ref x) (by rfl) (es_cons (v := .int σ.pt) (v_at r1 hb10 rfl) (es_cons (v := .ref x6) (by assumption) (es_consE (e_meth (x := w.b) (by assumption) hb10 rfl rfl (vs := []) rfl (c_is_modified C Gp.buf ?_))))))
 refine es_cons (v := .int σ.sv) (v_at r1 hb10 rfl) (es_nil ?_)
 have hlen : ((t.take (e - 1).toNat).drop (s - 1).toNat).length = (e - s).toNat := by
   rw [List.length_drop,List.length_take]; exact (ar (.i (.L K1 Z0) (.i (.L Z1 (.a (.u N0) K1)) (.e (.s (.i (.t (.s Z1 K1)) N0) (.t (.s Z0 K1))) (.t (.s Z1 Z0))))) 2 [_] [_,_]) h1 h3
 refine c_ul_delete C Gp.buf un ⟨d,x9,x5,hx10,h9',h5'⟩ h6' n6 ?_ (λ z => ?_) (by rw [hlen]; have := X.len; have := X.sz; obtain ⟨P,G,T,R,rfl⟩ := X; have := R.len; simp at h3; exact (ar (.i (.e N0 (.a (.a N1 N2) N3)) (.i (.L K1 Z0) (.i (.L Z1 (.a (.a (.u N1) (.u N3)) K1)) (.i (.l N0 (.k 2000)) (.l (.t (.s Z1 Z0)) (.k 2000)))))) 4 [_,_,_,_] [_,_]) this h1 h3 (by assumption)) nxo (λ d' c' r' hpc => ?_) λ H11 G11 => ?_
 · have : ((σ.ms.filter (inside s e)).map λ r => (r.k,dist s e r)).length ≤ 2 := by rw [List.length_map]; exact hfl
   exact (ar (.i (.l N0 K2) (.i (.t (.a N1 (.k 20)) N2) (.t (.a (.a N1 N0) K5) N2))) 3 [_,_,_] []) this hl
 · rw [z] at hlen; simp at hlen; exact (ar (.i (.e K0 (.t (.s Z0 Z1))) (.i (.T Z1 Z0) .f)) 2 [] [_,_]) hlen h2
 · rw [hx10] at hpc
   have : pcF x9 x5 = pcF c' r' := by injection hpc with q; injection q
   have := congrFun this .codes
   simp at this
   rw [← this]; exact n9
 · have e1 : (decide (σ.pt = s + (((t.take (e - 1).toNat).drop (s - 1).toNat).length : Int))) = decide (σ.pt = e) := by
     rw [hlen]; congr 1; apply propext; omega
   rw [e1] at G11
   refine h H11 x ?_ (Gp.trans G11)
   exact (PcF.mk ⟨d,x9,x5,hx10,h9',h5',nxo,n9,n5,hx0,h90,h50⟩ : PcF H w σ H10 x _).go G11
end

end P_C13

section P_C14
open PySem

noncomputable def Sg.nIns (σ : Sg) (p k : Int) : Sg := if σ.un = true then { σ.st (decide (σ.sv < σ.tk)) σ.sv with rows := (σ.st (decide (σ.sv < σ.tk)) σ.sv).rows ++ [.ins p (p + k)] } else σ
noncomputable def Sg.nDel (σ : Sg) (s e : Int) (pc : Addr) : Sg := { σ.st (decide (σ.sv < σ.tk)) σ.sv with rows := (σ.st (decide (σ.sv < σ.tk)) σ.sv).rows ++ pntRow (atB σ.rows) σ.pb s ++ mrks (frOf s e σ.ms) ++ [.del s pc (decide (σ.pt = e))] }
noncomputable def insT (t : List Int) (p : Int) (l : List Int) : List Int := t.take (p - 1).toNat ++ l ++ t.drop (p - 1).toNat
noncomputable def delT (t : List Int) (s e : Int) : List Int := t.take (s - 1).toNat ++ t.drop (e - 1).toNat
noncomputable def midT (t : List Int) (s e : Int) : List Int := (t.take (e - 1).toNat).drop (s - 1).toNat
noncomputable def ptIn (pt p n : Int) : Int := if pt > p then pt + n else pt
noncomputable def ptOut (pt s e : Int) : Int := if pt > s then max s (pt - (e - s)) else pt
section
variable {call : Nat → Fn → List AV → AHeap → (AV → AHeap → Prop) → Prop} {n : Nat} {H H' : AHeap} {w : Wh} {σ σ' : Sg} {Q : AV → AHeap → Prop} {t : List Int}
theorem Txt.of {σ' : Sg} (X : Txt σ t) (h1 : σ'.cells = σ.cells) (h2 : σ'.gs = σ.gs) (h3 : σ'.ge = σ.ge) : Txt σ' t := by
 obtain ⟨P,G,T,R,rfl⟩ := X
 exact ⟨P,G,T,⟨h1.trans R.cells,h2.trans R.gs,h3.trans R.ge,by rw [h1]; exact R.sz⟩,rfl⟩
theorem st_eq (m : Bool) (tick : Int) : (σ.st m tick).cells = σ.cells ∧ (σ.st m tick).gs = σ.gs ∧ (σ.st m tick).ge = σ.ge ∧ (σ.st m tick).pt = σ.pt ∧ (σ.st m tick).zv = σ.zv ∧ (σ.st m tick).tk = σ.tk ∧ (σ.st m tick).ct = σ.ct ∧ (σ.st m tick).sv = σ.sv ∧ (σ.st m tick).ms = σ.ms ∧ (σ.st m tick).ul = σ.ul ∧ (σ.st m tick).pb = σ.pb ∧ (σ.st m tick).un = σ.un := by
 unfold Sg.st; split <;> exact ⟨rfl,rfl,rfl,rfl,rfl,rfl,rfl,rfl,rfl,rfl,rfl,rfl⟩
theorem nIns_eq (p k : Int) : (σ.nIns p k).cells = σ.cells ∧ (σ.nIns p k).gs = σ.gs ∧ (σ.nIns p k).ge = σ.ge ∧ (σ.nIns p k).pt = σ.pt ∧ (σ.nIns p k).zv = σ.zv ∧ (σ.nIns p k).tk = σ.tk ∧ (σ.nIns p k).ct = σ.ct ∧ (σ.nIns p k).sv = σ.sv ∧ (σ.nIns p k).ms = σ.ms ∧ (σ.nIns p k).ul = σ.ul ∧ (σ.nIns p k).pb = σ.pb ∧ (σ.nIns p k).un = σ.un := by
 unfold Sg.nIns; split
 · exact st_eq _ _
 · exact ⟨rfl,rfl,rfl,rfl,rfl,rfl,rfl,rfl,rfl,rfl,rfl,rfl⟩
theorem nDel_eq (s e : Int) (pc : Addr) : (σ.nDel s e pc).cells = σ.cells ∧ (σ.nDel s e pc).gs = σ.gs ∧ (σ.nDel s e pc).ge = σ.ge ∧ (σ.nDel s e pc).pt = σ.pt ∧ (σ.nDel s e pc).zv = σ.zv ∧ (σ.nDel s e pc).tk = σ.tk ∧ (σ.nDel s e pc).ct = σ.ct ∧ (σ.nDel s e pc).sv = σ.sv ∧ (σ.nDel s e pc).ms = σ.ms ∧ (σ.nDel s e pc).ul = σ.ul ∧ (σ.nDel s e pc).pb = σ.pb ∧ (σ.nDel s e pc).un = σ.un := st_eq _ _
theorem c_text_in (C : Calls call) (B : Buf H w σ) (X : Txt σ t) {cs : Addr} {l : List Int} {p : Int} (hl : H cs = some (.list (il l))) (hn : ¬ Ow w σ cs) (h0 : l ≠ []) (hp : 1 ≤ p) (hp' : p ≤ t.length + 1) (hs : t.length + l.length ≤ 1000)
   (hr : σ.un = true → σ.rows.length + 2 < lim ∧ lastIns (σ.st (decide (σ.sv < σ.tk)) σ.sv).rows = false)
   (h : ∀ H' c a e,Txt { (σ.nIns p l.length).gap c a e with zv := σ.zv + l.length,pt := ptIn σ.pt p l.length } (insT t p l) → Go w σ H { (σ.nIns p l.length).gap c a e with zv := σ.zv + l.length,pt := ptIn σ.pt p l.length } H' → Q .none H') :
   call (n + 4) .text_in [.ref w.b,.int p,.ref cs] H Q := by
 refine enter C (as := [_,_,_]) (b := b_text_in) rfl rfl rfl ?_
 have hll : l.length ≤ lim := by unfold lim; exact (ar (.i (.l (.a N0 N1) KK) (.l N1 KM)) 2 [_,_] []) hs
 have hk : (l.length : Int) ≠ 0 := λ z => h0 (List.eq_nil_of_length_eq_zero (by exact (ar (.i (.E (.u N0) K0) (.e N0 K0)) 1 [_] []) z))
 obtain ⟨q,hq⟩ : ∃ q : Nat,p - 1 = q := ⟨(p - 1).toNat,by exact (ar (.i (.L K1 Z0) (.E (.s Z0 K1) (.u (.t (.s Z0 K1))))) 1 [] [_]) hp⟩
 have hqn : (p - 1).toNat = q := by exact (ar (.i (.E (.s Z0 K1) (.u N0)) (.e (.t (.s Z0 K1)) N0)) 1 [_] [_]) hq
 have go : ∀ H1,Go w σ H (σ.nIns p l.length) H1 → mSs (call (n + 3)) [.expr (.meth (.attr (.var 0) .text) .insert [(.bin .sub (.var 1) (.int 1)),(.var 2)]),
 .setAttr (.var 0) .zv (.bin .add (.attr (.var 0) .zv) (.len (.var 2))),
 .ite (.cmp .gt (.attr (.var 0) .point) (.var 1)) [.setAttr (.var 0) .point (.bin .add (.attr (.var 0) .point) (.len (.var 2)))] []] (argL [.ref w.b,.int p,.ref cs]) H1 (λ mf _ H' => match mf with | .next => Q .none H' | .ret v => Q v H') := by
   intro H1 G1
   obtain ⟨e1,e2,e3,e4,e5,-⟩ := nIns_eq (σ := σ) p l.length
   generalize hσ : σ.nIns p l.length = σ1 at *
   have hb := G1.buf.b
   have hg := G1.buf.g
   obtain ⟨hl1,hn1⟩ := G1.ext cs _ hl hn
   refine s_expr (e_meth (x := w.g) (v_at rfl hb rfl) hg rfl rfl (vs := [.int q,.ref cs]) (v_cons (vi (v_bin rfl rfl rfl) hq) rfl) (c_gap_insert C G1.buf (X.of e1 e2 e3) hl1 hn1 (by exact (ar (.i (.e (.t (.s Z0 K1)) N0) (.i (.L Z0 (.a (.u N1) K1)) (.l N0 N1))) 2 [_,_] [_]) hqn hp') hs λ H2 c a e X2 G2 => ?_))
   have hb2 := G2.buf.b
   obtain ⟨hl2,hn2⟩ := G2.ext cs _ hl1 hn1
   refine s_setAttr (x := w.b) (u := .int (σ.zv + l.length)) (by simp [hb2,hl2,hll,Sg.gap,e5]) (by rfl) hb2 rfl (by decide) rfl ?_
   have G3 := G2.buf.zv (σ.zv + l.length)
   generalize H2.set w.b _ = H3 at *
   have hb3 := G3.buf.b
   obtain ⟨hl3,hn3⟩ := G3.ext cs _ hl2 hn2
   have e6 : insT t p l = t.take q ++ l ++ t.drop q := by unfold insT; rw [hqn]
   refine s_ite (p := decide (σ.pt > p)) (by simp [hb3,Sg.gap,e4]) (λ z => ?_) (λ z => ?_)
   · have z : σ.pt > p := of_decide_eq_true z
     refine s_setAttr (x := w.b) (u := .int (σ.pt + l.length)) (by simp [hb3,hl3,hll,Sg.gap,e4]) (by rfl) hb3 rfl (by decide) rfl (s_back ?_)
     have e7 : ptIn σ.pt p l.length = σ.pt + l.length := if_pos z
     refine h _ c a e ?_ ?_
     · rw [e6]; exact X2.of rfl rfl rfl
     · rw [e7]; exact G1.trans (G2.trans (G3.trans (G3.buf.pt (σ.pt + l.length))))
   · have z : ¬ σ.pt > p := of_decide_eq_false z
     have e7 : ptIn σ.pt p l.length = σ.pt := if_neg z
     refine s_back (h _ c a e ?_ ?_)
     · rw [e6]; exact X2.of rfl rfl rfl
     · rw [e7]
       have := G1.trans (G2.trans G3)
       rw [← e4]; exact this
 have hb := B.b
 cases hu : σ.un with
 | false =>
   have e : σ.nIns p l.length = σ := by unfold Sg.nIns; rw [hu]; rfl
   refine s_skip (w_cmp (v_at rfl hb (congrArg some (if_neg (by rw [hu]; exact ft)))) rfl rfl) (go H ?_)
   rw [e]; exact Go.refl B
 | true =>
   have e : σ.nIns p l.length = { σ.st (decide (σ.sv < σ.tk)) σ.sv with rows := (σ.st (decide (σ.sv < σ.tk)) σ.sv).rows ++ [.ins p (p + l.length)] } := by unfold Sg.nIns; rw [hu]; rfl
   have hrc := B.rc hu
   refine s_iteT (w_cmp (v_at rfl hb (congrArg some (if_pos hu))) rfl rfl) (s_expr (e_meth (x := w.rc) (v_at rfl hb (congrArg some (if_pos hu))) hrc rfl rfl (vs := [.ref w.b,.int p,.int l.length]) (v_cons rfl (v_cons rfl (v_cons (v_ln rfl hl (List.length_map _) hll) rfl))) (c_rec_comes C B hu (hr hu).1 hk (hr hu).2 λ H1 G1 => s_back (go H1 ?_))))
   rw [e]; exact G1
theorem c_text_out (C : Calls call) (B : Buf H w σ) (un : σ.un = true) (ok : MsOk σ.ms) (X : Txt σ t) {s e : Int} (h1 : 1 ≤ s) (h2 : s < e) (h3 : e ≤ t.length + 1) (hl : σ.rows.length + 20 < lim)
   (h : ∀ x H' c a b pc,H x = none → Txt { (σ.nDel s e pc).gap c a b with zv := σ.zv - (e - s),pt := ptOut σ.pt s e } (delT t s e) → PcF H w { (σ.nDel s e pc).gap c a b with zv := σ.zv - (e - s),pt := ptOut σ.pt s e } H' pc (midT t s e) →
     Go w σ H { (σ.nDel s e pc).gap c a b with zv := σ.zv - (e - s),pt := ptOut σ.pt s e } H' → Q (.ref x) H') : call (n + 4) .text_out [.ref w.b,.int s,.int e] H Q := by
 refine enter C (as := [_,_,_]) (b := b_text_out) rfl rfl rfl ?_
 have hb := B.b
 have hrc := B.rc un
 refine s_iteT (w_cmp (v_at rfl hb (congrArg some (if_pos un))) rfl rfl) (s_expr (e_meth (x := w.rc) (v_at rfl hb (congrArg some (if_pos un))) hrc rfl rfl (vs := [.ref w.b,.int s,.int e]) (by rfl) (c_rec_goes C B un ok X h1 h2 h3 hl λ H1 pc Hp G1 => s_back ?_)))
 obtain ⟨e1,e2,e3,e4,e5,-⟩ := nDel_eq (σ := σ) s e pc
 have G1 : Go w σ H (σ.nDel s e pc) H1 := G1
 have Hp : PcF H w (σ.nDel s e pc) H1 pc (midT t s e) := Hp
 generalize hσ : σ.nDel s e pc = σ1 at *
 have hb1 := G1.buf.b
 have hg1 := G1.buf.g
 obtain ⟨p,hp⟩ : ∃ p : Nat,s - 1 = p := ⟨(s - 1).toNat,by exact (ar (.i (.L K1 Z0) (.E (.s Z0 K1) (.u (.t (.s Z0 K1))))) 1 [] [_]) h1⟩
 obtain ⟨q,hq⟩ : ∃ q : Nat,e - 1 = q := ⟨(e - 1).toNat,by exact (ar (.i (.E (.s Z0 K1) (.u N0)) (.i (.T Z0 Z1) (.E (.s Z1 K1) (.u (.t (.s Z1 K1)))))) 2 [_] [_,_]) hp h2⟩
 have hpn : (s - 1).toNat = p := by exact (ar (.i (.E (.s Z0 K1) (.u N0)) (.e (.t (.s Z0 K1)) N0)) 1 [_] [_]) hp
 have hqn : (e - 1).toNat = q := by exact (ar (.i (.E (.s Z0 K1) (.u N0)) (.e (.t (.s Z0 K1)) N0)) 1 [_] [_]) hq
 refine s_assignE (e_meth (x := w.g) (v_at rfl hb1 rfl) hg1 rfl rfl (vs := [.int p,.int q]) (v_cons (vi (v_bin rfl rfl rfl) hp) (v_cons (vi (v_bin rfl rfl rfl) hq) rfl)) (c_gap_delete C G1.buf (X.of e1 e2 e3) (by exact (ar (.i (.e (.t (.s Z0 K1)) N0) (.i (.e (.t (.s Z1 K1)) N1) (.i (.T Z1 Z0) (.l N1 N0)))) 2 [_,_] [_,_]) hqn hpn h2) (by exact (ar (.i (.e (.t (.s Z0 K1)) N0) (.i (.L Z0 (.a (.u N1) K1)) (.l N0 N1))) 2 [_,_] [_]) hqn h3) λ x H2 c a b hx X2 G2 hx2 nx => ?_))
 have hb2 := G2.buf.b
 have hx0 : H x = none := by
   cases z : H x with
   | none => rfl
   | some o =>
     have no : ¬ Ow w σ x := λ z' => by
       obtain ⟨o',e'⟩ := B.live z'
       have := G1.buf.new hx
       exact this (by
         rcases z' with rfl | rfl | rfl | rfl | rfl | ⟨u,rfl | rfl⟩ | ⟨r,hr,rfl⟩
         · exact .inl rfl
         · exact .inr (.inl rfl)
         · exact .inr (.inr (.inl rfl))
         · exact .inr (.inr (.inr (.inl rfl)))
         · exact .inr (.inr (.inr (.inr (.inl rfl))))
         · exact .inr (.inr (.inr (.inr (.inr (.inl ⟨by rw [← hσ]; exact (nDel_eq (σ := σ) s e pc).2.2.2.2.2.2.2.2.2.2.2.trans u,.inl rfl⟩)))))
         · exact .inr (.inr (.inr (.inr (.inr (.inl ⟨by rw [← hσ]; exact (nDel_eq (σ := σ) s e pc).2.2.2.2.2.2.2.2.2.2.2.trans u,.inr (by rw [← hσ]; exact (nDel_eq (σ := σ) s e pc).2.2.2.2.2.2.2.2.2.1.symm)⟩)))))
         · exact .inr (.inr (.inr (.inr (.inr (.inr ⟨r,by rw [← hσ,(nDel_eq (σ := σ) s e pc).2.2.2.2.2.2.2.2.1]; exact hr,rfl⟩))))))
     rw [(G1.ext x o z no).1] at hx; exact sn hx
 refine s_setAttr (x := w.b) (u := .int (σ.zv - (e - s))) (by simp [hb2,Sg.gap,e5]) (by rfl) hb2 rfl (by decide) rfl ?_
 have G3 := G2.buf.zv (σ.zv - (e - s))
 generalize H2.set w.b _ = H3 at *
 have hb3 := G3.buf.b
 have e6 : delT t s e = t.take p ++ t.drop q := by unfold delT; rw [hpn,hqn]
 refine s_ite (p := decide (σ.pt > s)) (by simp [hb3,Sg.gap,e4]) (λ z => ?_) (λ z => ?_)
 · have z : σ.pt > s := of_decide_eq_true z
   refine s_setAttr (x := w.b) (u := .int (max s (σ.pt - (e - s)))) (by simp [hb3,Sg.gap,e4]) (by rfl) hb3 rfl (by decide) rfl (s_back ?_)
   have e7 : ptOut σ.pt s e = max s (σ.pt - (e - s)) := if_pos z
   have G4 := G2.trans (G3.trans (G3.buf.pt (max s (σ.pt - (e - s)))))
   refine s_ret (v := .ref x) (by rfl) (h x _ c a b pc hx0 ?_ ?_ ?_)
   · rw [e6,hσ]; exact X2.of rfl rfl rfl
   · rw [hσ,e7]; exact Hp.go G4
   · rw [hσ,e7]; exact G1.trans G4
 · have z : ¬ σ.pt > s := of_decide_eq_false z
   have e7 : ptOut σ.pt s e = σ.pt := if_neg z
   have G4 := G2.trans G3
   refine s_back (s_ret (v := .ref x) (by rfl) (h x _ c a b pc hx0 ?_ ?_ ?_))
   · rw [e6,hσ]; exact X2.of rfl rfl rfl
   · rw [hσ,e7,← e4]; exact Hp.go G4
   · rw [hσ,e7,← e4]; exact G1.trans G4
end

end P_C14

section P_C15
open PySem

structure Ed (σ : Sg) (t : List Int) : Prop where
 txt : Txt σ t
 zv : σ.zv = t.length + 1
 ok : MsOk σ.ms
 p1 : 1 ≤ σ.pt
 p2 : σ.pt ≤ σ.zv
noncomputable def ptRep (pt s e n : Int) : Int := if pt ≥ e then pt + n - (e - s) else ptIn (ptOut pt s e) s n
noncomputable def Sg.insd (σ : Sg) (n : Int) (c : List AV) (a e : Int) : Sg := { (σ.nIns σ.pt n).gap c a e with zv := σ.zv + n,pt := σ.pt + n,ms := mapP (fIns σ.pt (σ.pt + n) false) σ.ms,tk := σ.tk + 1,ct := σ.tk + 1 }
noncomputable def Sg.deld (σ : Sg) (s e : Int) (pc : Addr) (c : List AV) (a b : Int) : Sg := { (σ.nDel s e pc).gap c a b with zv := σ.zv - (e - s),pt := ptOut σ.pt s e,ms := mapP (fDel s e) σ.ms,tk := σ.tk + 1,ct := σ.tk + 1 }
noncomputable def Sg.repd (σ : Sg) (s e : Int) (pc : Addr) (n : Int) (c : List AV) (a b : Int) : Sg := { (σ.nDel s e pc).gap c a b with rows := (σ.nDel s e pc).rows ++ [.ins s (s + n)],zv := σ.zv - (e - s) + n,pt := ptRep σ.pt s e n,ms := mapP (fRep s e n) σ.ms,tk := σ.tk + 1,ct := σ.tk + 1 }
section
variable {call : Nat → Fn → List AV → AHeap → (AV → AHeap → Prop) → Prop} {n : Nat} {H H' : AHeap} {w : Wh} {σ σ' : Sg} {Q : AV → AHeap → Prop} {t : List Int}
theorem ms_mapP {f : Mk → Int} {l : List Mk} (h : MsOk l) : MsOk (mapP f l) := by
 have e : dictOfMs (mapP f l) = dictOfMs l := by simp [dictOfMs,mapP]
 unfold MsOk at h ⊢; rw [e]; exact h
theorem c_insert (C : Calls call) (B : Buf H w σ) (X : Ed σ t) {cs : Addr} {l : List Int} (hl : H cs = some (.list (il l))) (hn : ¬ Ow w σ cs) (h0 : l ≠ []) (hs : t.length + l.length ≤ 1000)
   (hr : σ.un = true → σ.rows.length + 2 < lim ∧ lastIns (σ.st (decide (σ.sv < σ.tk)) σ.sv).rows = false)
   (h : ∀ H' c a e,Ed (σ.insd l.length c a e) (insT t σ.pt l) → Go w σ H (σ.insd l.length c a e) H' → Q .none H') : call (n + 6) .insert [.ref w.b,.ref cs] H Q := by
 refine enter C (as := [_,_,_]) (b := b_insert) rfl rfl rfl ?_
 have hb := B.b
 refine s_expr (e_call (vs := [.ref w.b,.int σ.pt,.ref cs,.bool false,.bool true]) (v_cons rfl (v_cons (v_at rfl hb rfl) rfl)) ?_)
 refine enter C (as := [_,_,_,_,_]) (b := b_put_in) rfl rfl rfl ?_
 have hll : l.length ≤ lim := by unfold lim; exact (ar (.i (.l (.a N0 N1) KK) (.l N1 KM)) 2 [_,_] []) hs
 have h0' : ¬ ((l.length : Int) = 0) := λ z => h0 (List.eq_nil_of_length_eq_zero (by exact (ar (.i (.E (.u N0) K0) (.e N0 K0)) 1 [_] []) z))
 have p1 := X.p1
 have p2 := X.p2
 have hz := X.zv
 refine s_expr (e_call (vs := [.ref w.b]) (by rfl) (c_need_writable C B ?_))
 refine s_expr (e_call (vs := [.ref w.b,.int σ.pt,.int σ.pt]) (by rfl) (c_reached C B (by exact (ar (.i (.L K1 Z0) (.L K1 (.i Z0 Z0))) 1 [] [_]) p1) (by exact (ar (.i (.L Z0 Z1) (.L (.o Z0 Z0) Z1)) 2 [] [_,_]) p2) ?_))
 refine s_skip (wq (w_cmp (v_ln rfl hl (List.length_map _) hll) rfl rfl) (beq_false_of_ne h0')) ?_
 refine s_expr (e_call (vs := [.ref w.b,.int σ.pt,.int σ.pt]) (by rfl) (c_tell_ahead C B λ H1 G1 => ?_))
 obtain ⟨hl1,hn1⟩ := G1.ext cs _ hl hn
 refine s_expr (e_call (vs := [.ref w.b,.int σ.pt,.ref cs]) (by rfl) (c_text_in C G1.buf X.txt hl1 hn1 h0 p1 (by exact (ar (.i (.E Z0 (.a (.u N0) K1)) (.i (.L Z1 Z0) (.L Z1 (.a (.u N0) K1)))) 2 [_] [_,_]) hz p2) hs hr λ H2 c a e X2 G2 => ?_))
 obtain ⟨hl2,hn2⟩ := G2.ext cs _ hl1 hn1
 have hb2 := G2.buf.b
 refine s_iteT (by rfl) (s_setAttr (x := w.b) (u := .int (σ.pt + l.length)) (v_bin rfl (v_ln rfl hl2 (List.length_map _) hll) rfl) (by rfl) hb2 rfl (by decide) rfl (s_back ?_))
 have G3 := G2.buf.pt (σ.pt + l.length)
 generalize H2.set w.b _ = H3 at *
 obtain ⟨hl3,hn3⟩ := G3.ext cs _ hl2 hn2
 have hb3 := G3.buf.b
 have hm3 := G3.buf.m
 have ems : (σ.nIns σ.pt l.length).ms = σ.ms := (nIns_eq (σ := σ) σ.pt l.length).2.2.2.2.2.2.2.2.1
 have etk : (σ.nIns σ.pt l.length).tk = σ.tk := (nIns_eq (σ := σ) σ.pt l.length).2.2.2.2.2.1
 refine s_expr (e_meth (x := w.m) (v_at rfl hb3 rfl) hm3 rfl rfl (vs := [.int σ.pt,.int (σ.pt + l.length),.bool false]) (v_cons rfl (v_cons (v_bin rfl (v_ln rfl hl3 (List.length_map _) hll) rfl) rfl)) (c_mk_inserted C G3.buf (by refine (?_ : MsOk (σ.nIns σ.pt l.length).ms); rw [ems]; exact X.ok) λ H4 G4 => ?_))
 obtain ⟨hl4,hn4⟩ := G4.ext cs _ hl3 hn3
 have hb4 := G4.buf.b
 refine s_expr (e_call (vs := [.ref w.b,.int σ.pt,.int l.length,.bool false]) (v_cons rfl (v_cons rfl (v_cons (v_ln rfl hl4 (List.length_map _) hll) rfl))) (c_hung_in C G4.buf ?_))
 refine s_expr (e_call (vs := [.ref w.b,.int σ.pt,.int (σ.pt + l.length),.int 0]) (v_cons rfl (v_cons rfl (v_cons (v_bin rfl (v_ln rfl hl4 (List.length_map _) hll) rfl) rfl))) (c_tell_behind C G4.buf λ H5 G5 => ?_))
 have Gt := G1.trans (G2.trans (G3.trans (G4.trans G5)))
 have eσ : ({ ({ ({ (({ (σ.nIns σ.pt l.length).gap c a e with zv := σ.zv + l.length,pt := ptIn σ.pt σ.pt l.length } : Sg)) with pt := σ.pt + l.length } : Sg) with ms := mapP (fIns σ.pt (σ.pt + l.length) false) (σ.nIns σ.pt l.length).ms } : Sg) with tk := (σ.nIns σ.pt l.length).tk + 1,ct := (σ.nIns σ.pt l.length).tk + 1 } : Sg) = σ.insd l.length c a e := by
   rw [ems,etk]; rfl
 have hh := h H5 c a e
 rw [← eσ] at hh
 refine hh ⟨X2.of rfl rfl rfl, ?_, ?_, ?_, ?_⟩ Gt
 · refine (?_ : σ.zv + l.length = _)
   unfold insT
   simp only [List.length_append,List.length_take,List.length_drop]
   exact (ar (.i (.E Z0 (.a (.u N0) K1)) (.E (.a Z0 (.u N1)) (.a (.u (.a (.a (.i (.t (.s Z1 K1)) N0) N1) (.s N0 (.t (.s Z1 K1))))) K1))) 2 [_,_] [_,_]) hz
 · refine (?_ : MsOk (mapP _ (σ.nIns σ.pt l.length).ms))
   rw [ems]; exact ms_mapP X.ok
 · refine (?_ : 1 ≤ σ.pt + l.length); exact (ar (.i (.L K1 Z0) (.L K1 (.a Z0 (.u N0)))) 1 [_] [_]) p1
 · refine (?_ : σ.pt + (l.length : Int) ≤ σ.zv + l.length); exact (ar (.i (.L Z0 Z1) (.L (.a Z0 (.u N0)) (.a Z1 (.u N0)))) 2 [_] [_,_]) p2
theorem c_delete (C : Calls call) (B : Buf H w σ) (un : σ.un = true) (X : Ed σ t) {s e : Int} (h1 : 1 ≤ s) (h2 : s < e) (h3 : e ≤ σ.zv) (hl : σ.rows.length + 20 < lim)
   (h : ∀ v H' c a b pc,Ed (σ.deld s e pc c a b) (delT t s e) → PcF H w (σ.deld s e pc c a b) H' pc (midT t s e) → Go w σ H (σ.deld s e pc c a b) H' → Q v H') : call (n + 5) .delete [.ref w.b,.int s,.int e] H Q := by
 refine enter C (as := [_,_,_]) (b := b_delete) rfl rfl rfl ?_
 have hb := B.b
 have p1 := X.p1
 have p2 := X.p2
 have hz := X.zv
 have emin : min s e = s := by exact (ar (.i (.T Z0 Z1) (.E (.i Z0 Z1) Z0)) 2 [] [_,_]) h2
 have emax : max s e = e := by exact (ar (.i (.E (.i Z0 Z1) Z0) (.E (.o Z0 Z1) Z1)) 2 [] [_,_]) emin
 have hne : ¬ s = e := by exact (ar (.i (.T Z0 Z1) (.i (.E Z0 Z1) .f)) 2 [] [_,_]) h2
 refine s_expr (e_call (vs := [.ref w.b]) (by rfl) (c_need_writable C B ?_))
 refine s_unpackC (vs := [.ref w.b,.int s,.int e]) (by rfl) (c_reached C B (by exact (ar (.i (.E (.i Z0 Z1) Z0) (.i (.L K1 Z0) (.L K1 (.i Z0 Z1)))) 2 [] [_,_]) emin h1) (by exact (ar (.i (.E (.o Z0 Z1) Z1) (.i (.L Z1 Z2) (.L (.o Z0 Z1) Z2))) 3 [] [_,_,_]) emax h3) ?_)
 rw [emin,emax]
 refine ⟨rfl, ?_⟩
 refine s_skip (wq (w_cmp rfl rfl rfl) (beq_false_of_ne hne)) ?_
 refine s_expr (e_call (vs := [.ref w.b,.int s,.int e]) (by rfl) (c_tell_ahead C B λ H1 G1 => ?_))
 refine s_assignE (e_call (vs := [.ref w.b,.int s,.int e]) (by rfl) (c_text_out C G1.buf un X.ok X.txt h1 h2 (by exact (ar (.i (.E Z0 (.a (.u N0) K1)) (.i (.L Z1 Z0) (.L Z1 (.a (.u N0) K1)))) 2 [_] [_,_]) hz h3) hl λ x H2 c a b pc hx X2 Hp G2 => ?_))
 have hb2 := G2.buf.b
 have hm2 := G2.buf.m
 have ems : (σ.nDel s e pc).ms = σ.ms := (nDel_eq (σ := σ) s e pc).2.2.2.2.2.2.2.2.1
 have etk : (σ.nDel s e pc).tk = σ.tk := (nDel_eq (σ := σ) s e pc).2.2.2.2.2.1
 refine s_expr (e_meth (x := w.m) (v_at rfl hb2 rfl) hm2 rfl rfl (vs := [.int s,.int e]) (by rfl) (c_mk_deleted C G2.buf (by refine (?_ : MsOk (σ.nDel s e pc).ms); rw [ems]; exact X.ok) λ H3 G3 => ?_))
 refine s_expr (e_call (vs := [.ref w.b,.int s,.int e]) (by rfl) (c_hung_out C G3.buf ?_))
 refine s_expr (e_call (vs := [.ref w.b,.int s,.int s,.int (e - s)]) (by rfl) (c_tell_behind C G3.buf λ H4 G4 => ?_))
 refine s_ret (v := .ref x) (by rfl) ?_
 have Gt := G1.trans (G2.trans (G3.trans G4))
 have eσ : ({ ({ (({ (σ.nDel s e pc).gap c a b with zv := σ.zv - (e - s),pt := ptOut σ.pt s e } : Sg)) with ms := mapP (fDel s e) (σ.nDel s e pc).ms } : Sg) with tk := (σ.nDel s e pc).tk + 1,ct := (σ.nDel s e pc).tk + 1 } : Sg) = σ.deld s e pc c a b := by
   rw [ems,etk]; rfl
 have hh := h (.ref x) H4 c a b pc
 rw [← eσ] at hh
 have ho : ptOut σ.pt s e = if σ.pt > s then max s (σ.pt - (e - s)) else σ.pt := rfl
 refine hh ⟨X2.of rfl rfl rfl, ?_, ?_, ?_, ?_⟩ ((Hp.base λ x hx => G1.none (λ _ o => o) hx).go (G3.trans G4)) Gt
 · refine (?_ : σ.zv - (e - s) = _)
   unfold delT
   simp only [List.length_append,List.length_take,List.length_drop]
   exact (ar (.i (.E (.o Z0 Z1) Z1) (.i (.E Z2 (.a (.u N0) K1)) (.i (.L K1 Z0) (.i (.L Z1 Z2) (.E (.s Z2 (.s Z1 Z0)) (.a (.u (.a (.i (.t (.s Z0 K1)) N0) (.s N0 (.t (.s Z1 K1))))) K1)))))) 3 [_] [_,_,_]) emax hz h1 h3
 · refine (?_ : MsOk (mapP _ (σ.nDel s e pc).ms))
   rw [ems]; exact ms_mapP X.ok
 · refine (?_ : 1 ≤ ptOut σ.pt s e)
   rw [ho]; split <;> (first | exact (ar (.i (.L K1 Z0) (.L K1 (.o Z0 (.s Z1 (.s Z2 Z0))))) 3 [] [_,_,_]) h1 | exact (ar (.i (.L K1 Z0) (.L K1 Z0)) 1 [] [_]) p1)
 · refine (?_ : ptOut σ.pt s e ≤ σ.zv - (e - s))
   rw [ho]; split <;> (first | exact (ar (.i (.L Z0 Z1) (.i (.L Z2 Z1) (.L (.o Z3 (.s Z0 (.s Z2 Z3))) (.s Z1 (.s Z2 Z3))))) 4 [] [_,_,_,_]) p2 h3 | exact (ar (.i (.L Z0 Z1) (.i (.i (.T Z3 Z2) .f) (.L Z2 (.s Z1 (.s Z0 Z3))))) 4 [] [_,_,_,_]) h3 (by assumption))
theorem c_insert_piece (C : Calls call) (B : Buf H w σ) (un : σ.un = true) (X : Ed σ t) {pc : Addr} {l : List Int} (hp : PcN w σ H pc l) (h0 : l ≠ []) (hs : t.length + l.length ≤ 1000)
   (hr : σ.rows.length + 2 < lim ∧ lastIns (σ.st (decide (σ.sv < σ.tk)) σ.sv).rows = false)
   (h : ∀ H' c a e,Ed (σ.insd l.length c a e) (insT t σ.pt l) → Go w σ H (σ.insd l.length c a e) H' → Q .none H') : call (n + 7) .insert_piece [.ref w.b,.ref pc] H Q := by
 refine enter C (as := [_,_]) (b := b_insert_piece) rfl rfl rfl ?_
 have hb := B.b
 obtain ⟨d,cs,r,hpc,hc,-,-,nc,-⟩ := hp.ex
 refine s_assign (v := .int σ.pt) (v_at rfl hb rfl) ?_
 refine s_expr (e_call (vs := [.ref w.b,.ref cs]) (v_cons rfl (v_cons (v_at rfl hpc rfl) rfl)) (c_insert C B X hc nc h0 hs (λ _ => hr) λ H' c a e X' G => ?_))
 have hb' := G.buf.b
 exact s_skip (w_and (w_no (w_cmp (v_at rfl hb' rfl) rfl rfl) rfl)) (h H' c a e X' G)
theorem st_again (m : Bool) (tick : Int) : (σ.st m tick).st m tick = σ.st m tick := by
 by_cases hc : m = false ∧ σ.nt ≠ some tick
 · have e : σ.st m tick = { σ with rows := σ.rows ++ [.unm tick],nt := some tick } := if_pos hc
   rw [e]
   exact if_neg λ z => z.2 rfl
 · have e : σ.st m tick = σ := if_neg hc
   rw [e,e]
theorem st_set (m : Bool) (tick : Int) (rows : List Row) : ({ σ.st m tick with rows := rows } : Sg).st m tick = { σ.st m tick with rows := rows } := by
 have h := st_again (σ := σ) m tick
 by_cases hc : m = false ∧ (σ.st m tick).nt ≠ some tick
 · have e : (σ.st m tick).st m tick = { σ.st m tick with rows := (σ.st m tick).rows ++ [.unm tick],nt := some tick } := if_pos hc
   rw [e] at h
   have := congrArg (λ s : Sg => s.rows.length) h
   simp at this
 · exact if_neg hc
theorem c_replace (C : Calls call) (B : Buf H w σ) (un : σ.un = true) (X : Ed σ t) {s e : Int} {cs : Addr} {l : List Int} (h1 : 1 ≤ s) (h2 : s < e) (h3 : e ≤ σ.zv) (hlr : σ.rows.length + 20 < lim) (hl : H cs = some (.list (il l))) (hn : ¬ Ow w σ cs) (h0 : l ≠ []) (hs : t.length + l.length ≤ 1000)
   (h : ∀ v H' c a b pc,Ed (σ.repd s e pc l.length c a b) (insT (delT t s e) s l) → PcF H w (σ.repd s e pc l.length c a b) H' pc (midT t s e) → Go w σ H (σ.repd s e pc l.length c a b) H' → Q v H') : call (n + 5) .replace [.ref w.b,.int s,.int e,.ref cs] H Q := by
 refine enter C (as := [_,_,_,_]) (b := b_replace) rfl rfl rfl ?_
 have hb := B.b
 have hz := X.zv
 have p1 := X.p1
 have p2 := X.p2
 have emin : min s e = s := by exact (ar (.i (.T Z0 Z1) (.E (.i Z0 Z1) Z0)) 2 [] [_,_]) h2
 have emax : max s e = e := by exact (ar (.i (.E (.i Z0 Z1) Z0) (.E (.o Z0 Z1) Z1)) 2 [] [_,_]) emin
 have hne : ¬ s = e := by exact (ar (.i (.T Z0 Z1) (.i (.E Z0 Z1) .f)) 2 [] [_,_]) h2
 have hll : l.length ≤ lim := by unfold lim; exact (ar (.i (.l (.a N0 N1) KK) (.l N1 KM)) 2 [_,_] []) hs
 refine s_expr (e_call (vs := [.ref w.b]) (by rfl) (c_need_writable C B ?_))
 refine s_unpackC (vs := [.ref w.b,.int s,.int e]) (by rfl) (c_reached C B (by exact (ar (.i (.E (.i Z0 Z1) Z0) (.i (.L K1 Z0) (.L K1 (.i Z0 Z1)))) 2 [] [_,_]) emin h1) (by exact (ar (.i (.E (.o Z0 Z1) Z1) (.i (.L Z1 Z2) (.L (.o Z0 Z1) Z2))) 3 [] [_,_,_]) emax h3) ?_)
 rw [emin,emax]
 refine ⟨rfl, ?_⟩
 refine s_skip (wq (w_cmp rfl rfl rfl) (beq_false_of_ne hne)) (s_skip (by simp [hl,hll,h0]) ?_)
 refine s_assign (v := .int σ.pt) (v_at rfl hb rfl) ?_
 refine s_expr (e_call (vs := [.ref w.b,.int s,.int e]) (by rfl) (c_tell_ahead C B λ H1 G1 => ?_))
 refine s_assignE (e_call (vs := [.ref w.b,.int s,.int e]) (by rfl) (c_text_out C G1.buf un X.ok X.txt h1 h2 (by exact (ar (.i (.E Z0 (.a (.u N0) K1)) (.i (.L Z1 Z0) (.L Z1 (.a (.u N0) K1)))) 2 [_] [_,_]) hz h3) hlr λ x H2 c a b pc hx X2 Hp G2 => ?_))
 obtain ⟨hl1,hn1⟩ := G1.ext cs _ hl hn
 obtain ⟨hl2,hn2⟩ := G2.ext cs _ hl1 hn1
 have ed := nDel_eq (σ := σ) s e pc
 have ems : (σ.nDel s e pc).ms = σ.ms := ed.2.2.2.2.2.2.2.2.1
 have etk : (σ.nDel s e pc).tk = σ.tk := ed.2.2.2.2.2.1
 have esv : (σ.nDel s e pc).sv = σ.sv := ed.2.2.2.2.2.2.2.1
 have eun : (σ.nDel s e pc).un = true := ed.2.2.2.2.2.2.2.2.2.2.2.trans un
 have erl : (σ.nDel s e pc).rows.length ≤ σ.rows.length + 10 := by
   unfold Sg.nDel
   have a1 := st_len (σ := σ) (decide (σ.sv < σ.tk)) σ.sv
   have a2 := mrks_len (frOf s e σ.ms)
   have a3 : (frOf s e σ.ms).length ≤ 2 := by unfold frOf; rw [List.length_map]; exact Nat.le_trans (List.length_filter_le _ _) (ms_le2 X.ok)
   have a4 : (pntRow (atB σ.rows) σ.pb s).length ≤ 1 := by
     unfold pntRow
     split
     · split <;> simp
     · simp
   simp only [List.length_append,List.length_singleton]
   exact (ar (.i (.l N0 (.a N1 K1)) (.i (.l N2 K1) (.i (.l N3 K2) (.i (.l N4 N3) (.l (.a (.a (.a N0 N2) N4) K1) (.a N1 (.k 10))))))) 5 [_,_,_,_,_] []) a1 a4 a3 a2
 have est : ∀ σ2 : Sg,σ2 = { (σ.nDel s e pc).gap c a b with zv := σ.zv - (e - s),pt := ptOut σ.pt s e } → σ2.st (decide (σ2.sv < σ2.tk)) σ2.sv = σ2 ∧ lastIns σ2.rows = false := by
   intro σ2 e2
   have h1 : σ2.sv = σ.sv := by rw [e2]; exact esv
   have h2 : σ2.tk = σ.tk := by rw [e2]; exact etk
   have h3 : σ2.nt = (σ.st (decide (σ.sv < σ.tk)) σ.sv).nt := by rw [e2]; rfl
   constructor
   · rw [h1,h2]
     have h4 := st_set (σ := σ) (decide (σ.sv < σ.tk)) σ.sv []
     by_cases hc : decide (σ.sv < σ.tk) = false ∧ (σ.st (decide (σ.sv < σ.tk)) σ.sv).nt ≠ some σ.sv
     · have e5 : ({ σ.st (decide (σ.sv < σ.tk)) σ.sv with rows := [] } : Sg).st (decide (σ.sv < σ.tk)) σ.sv = { σ.st (decide (σ.sv < σ.tk)) σ.sv with rows := [] ++ [.unm σ.sv],nt := some σ.sv } := if_pos hc
       rw [e5] at h4
       have := congrArg (λ s : Sg => s.rows) h4
       cases this
     · exact if_neg λ z => hc ⟨z.1,h3 ▸ z.2⟩
   · rw [e2]
     refine (?_ : lastIns ((σ.st (decide (σ.sv < σ.tk)) σ.sv).rows ++ pntRow (atB σ.rows) σ.pb s ++ mrks (frOf s e σ.ms) ++ [.del s pc (decide (σ.pt = e))]) = false)
     unfold lastIns
     rw [List.getLast?_append]; rfl
 obtain ⟨es1,es2⟩ := est _ rfl
 have hzt : (delT t s e).length = t.length - (e - s).toNat := by unfold delT; simp only [List.length_append,List.length_take,List.length_drop]; exact (ar (.i (.E (.o Z0 Z1) Z1) (.i (.E Z2 (.a (.u N0) K1)) (.i (.L K1 Z0) (.i (.L Z1 Z2) (.e (.a (.i (.t (.s Z0 K1)) N0) (.s N0 (.t (.s Z1 K1)))) (.s N0 (.t (.s Z1 Z0)))))))) 3 [_] [_,_,_]) emax hz h1 h3
 have eni : Sg.nIns { (σ.nDel s e pc).gap c a b with zv := σ.zv - (e - s),pt := ptOut σ.pt s e } s l.length = { (σ.nDel s e pc).gap c a b with zv := σ.zv - (e - s),pt := ptOut σ.pt s e,rows := (σ.nDel s e pc).rows ++ [.ins s (s + l.length)] } := by
   refine (if_pos eun).trans ?_
   rw [es1]; rfl
 refine s_expr (e_call (vs := [.ref w.b,.int s,.ref cs]) (by rfl) (c_text_in C G2.buf X2 hl2 hn2 h0 h1 (by exact (ar (.i (.E (.o Z0 Z1) Z1) (.i (.E Z2 (.a (.u N0) K1)) (.i (.e N1 (.s N0 (.t (.s Z1 Z0)))) (.i (.L Z1 Z2) (.L Z0 (.a (.u N1) K1)))))) 3 [_,_] [_,_,_]) emax hz hzt h3) (by exact (ar (.i (.e N0 (.s N1 (.t (.s Z0 Z1)))) (.i (.l (.a N1 N2) KK) (.l (.a N0 N2) KK))) 3 [_,_,_] [_,_]) hzt hs) (λ _ => ⟨by refine (?_ : (σ.nDel s e pc).rows.length + 2 < lim); exact (ar (.i (.l N0 (.a N1 (.k 10))) (.i (.t (.a N1 (.k 20)) N2) (.t (.a N0 K2) N2))) 3 [_,_,_] []) erl hlr,by rw [es1]; exact es2⟩) λ H3 c3 a3 b3 X3 G3 => ?_))
 rw [eni] at X3 G3
 obtain ⟨hl3,hn3⟩ := G3.ext cs _ hl2 hn2
 have hb3 := G3.buf.b
 have fin : ∀ H4 pt4,ptRep σ.pt s e l.length = pt4 → Go w σ H ({ (σ.nDel s e pc).gap c3 a3 b3 with rows := (σ.nDel s e pc).rows ++ [.ins s (s + l.length)],zv := σ.zv - (e - s) + l.length,pt := pt4 } : Sg) H4 → PcF H w ({ (σ.nDel s e pc).gap c3 a3 b3 with rows := (σ.nDel s e pc).rows ++ [.ins s (s + l.length)],zv := σ.zv - (e - s) + l.length,pt := pt4 } : Sg) H4 pc (midT t s e) → H4 cs = some (.list (il l)) →
     mSs (call (n + 4)) [.expr (.meth (.attr (.var 0) .markers) .replaced [(.var 4),(.var 5),(.len (.var 3))]),
 .expr (.call .hung_out [(.var 0),(.var 4),(.var 5)]),
 .expr (.call .hung_in [(.var 0),(.var 4),(.len (.var 3)),(.bool false)]),
 .expr (.call .tell_behind [(.var 0),(.var 4),(.bin .add (.var 4) (.len (.var 3))),(.bin .sub (.var 5) (.var 4))]),
 .ret (some (.var 7))] (upd (upd (upds (argL [.ref w.b,.int s,.int e,.ref cs]) [4,5] [.int s,.int e]) 6 (.int σ.pt)) 7 (.ref x)) H4 (λ mf _ H' => match mf with | .next => Q .none H' | .ret v => Q v H') := by
   intro H4 pt4 ept G4 Hp4 hl4
   have hb4 := G4.buf.b
   have hm4 := G4.buf.m
   refine s_expr (e_meth (x := w.m) (v_at rfl hb4 rfl) hm4 rfl rfl (vs := [.int s,.int e,.int l.length]) (v_cons rfl (v_cons rfl (v_cons (v_ln rfl hl4 (List.length_map _) hll) rfl))) (c_mk_replaced C G4.buf (by refine (?_ : MsOk (σ.nDel s e pc).ms); rw [ems]; exact X.ok) λ H5 G5 => ?_))
   have n4 : ¬ Ow w ({ (σ.nDel s e pc).gap c3 a3 b3 with rows := (σ.nDel s e pc).rows ++ [.ins s (s + l.length)],zv := σ.zv - (e - s) + l.length,pt := pt4 } : Sg) cs := (G4.ext cs _ hl hn).2
   obtain ⟨hl5,-⟩ := G5.ext cs _ hl4 n4
   refine s_expr (e_call (vs := [.ref w.b,.int s,.int e]) (by rfl) (c_hung_out C G5.buf ?_))
   refine s_expr (e_call (vs := [.ref w.b,.int s,.int l.length,.bool false]) (v_cons rfl (v_cons rfl (v_cons (v_ln rfl hl5 (List.length_map _) hll) rfl))) (c_hung_in C G5.buf ?_))
   refine s_expr (e_call (vs := [.ref w.b,.int s,.int (s + l.length),.int (e - s)]) (v_cons rfl (v_cons rfl (v_cons (v_bin rfl (v_ln rfl hl5 (List.length_map _) hll) rfl) (v_cons (v_bin rfl rfl rfl) rfl)))) (c_tell_behind C G5.buf λ H6 G6 => ?_))
   refine s_ret (v := .ref x) (by rfl) ?_
   have Gt := G4.trans (G5.trans G6)
   have hh := h (.ref x) H6 c3 a3 b3 pc
   have eσ : σ.repd s e pc l.length c3 a3 b3 = ({ (σ.nDel s e pc).gap c3 a3 b3 with rows := (σ.nDel s e pc).rows ++ [.ins s (s + l.length)],zv := σ.zv - (e - s) + l.length,pt := pt4,ms := mapP (fRep s e l.length) (σ.nDel s e pc).ms,tk := (σ.nDel s e pc).tk + 1,ct := (σ.nDel s e pc).tk + 1 } : Sg) := by
     unfold Sg.repd; rw [ems,etk,ept]
   rw [eσ] at hh
   have ho : ptOut σ.pt s e = if σ.pt > s then max s (σ.pt - (e - s)) else σ.pt := rfl
   have hi : ptIn (ptOut σ.pt s e) s l.length = if ptOut σ.pt s e > s then ptOut σ.pt s e + l.length else ptOut σ.pt s e := rfl
   have hrp : pt4 = if σ.pt ≥ e then σ.pt + l.length - (e - s) else ptIn (ptOut σ.pt s e) s l.length := ept.symm
   refine hh ⟨X3.of rfl rfl rfl, ?_, ?_, ?_, ?_⟩ (Hp4.go (G5.trans G6)) Gt
   · refine (?_ : σ.zv - (e - s) + l.length = _)
     unfold insT
     simp only [List.length_append,List.length_take,List.length_drop,hzt]
     exact (ar (.i (.E (.u N2) (.s Z0 K1)) (.i (.E (.u N3) (.s Z1 Z0)) (.i (.L Z1 Z2) (.i (.E Z2 (.a (.u N0) K1)) (.E (.a (.s Z2 (.s Z1 Z0)) (.u N1)) (.a (.u (.a (.a (.i N2 (.s N0 N3)) N1) (.s (.s N0 N3) N2))) K1)))))) 4 [_,_,_,_] [_,_,_]) (Int.toNat_of_nonneg (Int.sub_nonneg.mpr h1)) (Int.toNat_of_nonneg (Int.sub_nonneg.mpr (Int.le_of_lt h2))) h3 hz
   · refine (?_ : MsOk (mapP _ (σ.nDel s e pc).ms))
     rw [ems]; exact ms_mapP X.ok
   · refine (?_ : 1 ≤ pt4)
     rw [hrp,hi,ho]; repeat' split
     all_goals (first | exact (ar (.i (.L K1 Z0) (.L K1 (.a (.o Z0 (.s Z1 (.s Z2 Z0))) (.u N0)))) 3 [_] [_,_,_]) h1 | exact (ar (.i (.L K1 Z0) (.L K1 Z0)) 1 [] [_]) p1 | (first | exact (ar (.i (.L (.z 1) (.z 0)) (.i (.L (.k 1) (.z 2)) (.L (.k 1) (.s (.a (.z 0) (.u (.n 0))) (.s (.z 1) (.z 2)))))) 3 [_] [_,_,_]) (by assumption) h1 | exact (ar (.i (.L (.k 1) (.z 0)) (.L (.k 1) (.o (.z 0) (.s (.z 1) (.s (.z 2) (.z 0)))))) 3 [] [_,_,_]) h1))
   · refine (?_ : pt4 ≤ σ.zv - (e - s) + l.length)
     rw [hrp,hi,ho]; repeat' split
     all_goals (first | exact (ar (.i (.L Z3 Z2) (.L (.s (.a Z3 (.u N0)) (.s Z1 Z0)) (.a (.s Z2 (.s Z1 Z0)) (.u N0)))) 4 [_] [_,_,_,_]) p2 | exact (ar (.i (.L Z3 Z2) (.i (.T Z0 Z1) (.i (.L Z1 Z2) (.L (.a (.o Z0 (.s Z3 (.s Z1 Z0))) (.u N0)) (.a (.s Z2 (.s Z1 Z0)) (.u N0)))))) 4 [_] [_,_,_,_]) p2 h2 h3 | exact (ar (.i (.L Z3 Z2) (.i (.T Z0 Z1) (.i (.L Z1 Z2) (.L (.o Z0 (.s Z3 (.s Z1 Z0))) (.a (.s Z2 (.s Z1 Z0)) (.u N0)))))) 4 [_] [_,_,_,_]) p2 h2 h3 | contradiction | exact (ar (.i (.i (.T Z0 Z3) .f) (.i (.T Z0 Z1) (.i (.L Z1 Z2) (.L Z3 (.a (.s Z2 (.s Z1 Z0)) (.u N0)))))) 4 [_] [_,_,_,_]) (by assumption) h2 h3)
 have G03 := G1.trans (G2.trans G3)
 have Hp3 := (Hp.base λ x hx => G1.none (λ _ o => o) hx).go G3
 refine s_ite (p := decide (σ.pt ≥ e)) (by rfl) (λ z => ?_) (λ z => ?_)
 · have z : σ.pt ≥ e := of_decide_eq_true z
   refine s_setAttr (x := w.b) (u := .int (σ.pt + l.length - (e - s))) (v_bin (v_bin rfl (v_ln rfl hl3 (List.length_map _) hll) rfl) (v_bin rfl rfl rfl) rfl) (by rfl) hb3 rfl (by decide) rfl (s_back ?_)
   have G4 := G3.buf.pt (σ.pt + l.length - (e - s))
   exact fin _ _ (if_pos z) (G03.trans G4) (Hp3.go G4) (G4.ext cs _ hl3 hn3).1
 · have z : ¬ σ.pt ≥ e := of_decide_eq_false z
   exact s_back (fin H3 _ (if_neg z) G03 Hp3 hl3)
end

end P_C15

section P_C16
open PySem

noncomputable def Row.tag : Row → Sy
 | .bnd => .boundary | .ins _ _ => .insert | .del _ _ _ => .delete | .mrk _ _ => .marker | .pnt _ => .point | .unm _ => .unmodified
noncomputable def Row.tl : Row → List AV
 | .bnd => [] | .ins s e => [.int s,.int e] | .del s p b => [.int s,.ref p,.bool b] | .mrk k d => [.ref k,.int d] | .pnt p => [.int p] | .unm t => [.int t]
noncomputable def whR (Q : SPost) (n : Nat) (W : ∀ m,m < n → Locals → AHeap → Prop) : SPost := λ f ρ₁ H₁ => match f with
       | .next => ∃ m,∃ h : m < n,W m h ρ₁ H₁
       | .ret v => Q (.ret v) ρ₁ H₁
noncomputable def whF (call : Fn → List AV → AHeap → (AV → AHeap → Prop) → Prop) (t : ME) (b : List MS) (Q : SPost) (n : Nat) (W : ∀ m,m < n → Locals → AHeap → Prop) (ρ : Locals) (H : AHeap) : Prop :=
 mT call t (mE call t ρ H) ρ H λ r H' => (r = true → mSs call b ρ H' (whR Q n W)) ∧ (r = false → Q .next ρ H')
noncomputable def wh (call : Fn → List AV → AHeap → (AV → AHeap → Prop) → Prop) (t : ME) (b : List MS) (Q : SPost) (n : Nat) : Locals → AHeap → Prop :=
 Nat.lt_wfRel.wf.fix (whF call t b Q) n
noncomputable def whQ (call : Fn → List AV → AHeap → (AV → AHeap → Prop) → Prop) (t : ME) (b : List MS) (Q : SPost) (n : Nat) : SPost := whR Q n λ m _ => wh call t b Q m
section
variable {call : Fn → List AV → AHeap → (AV → AHeap → Prop) → Prop} {H : AHeap} {ρ : Locals} {ss : List MS} {Q : SPost}
theorem whR_eq {n : Nat} {I : Nat → Locals → AHeap → Prop} : whR Q n (λ m _ => I m) = λ f ρ₁ H₁ => match f with
       | .next => ∃ m,m < n ∧ I m ρ₁ H₁
       | .ret v => Q (.ret v) ρ₁ H₁ := by
 funext f ρ H
 cases f
 · exact propext ⟨λ ⟨m,a,b⟩ => ⟨m,a,b⟩,λ ⟨m,a,b⟩ => ⟨m,a,b⟩⟩
 · rfl
theorem wh_eq {t : ME} {b : List MS} {Q : SPost} (n : Nat) : wh call t b Q n = whF call t b Q n λ m _ => wh call t b Q m := WellFounded.fix_eq _ _ _
theorem s_while {t : ME} {b : List MS} (n : Nat) (h : wh call t b (sq call ss Q) n ρ H) : mSs call (.while t b :: ss) ρ H Q :=
 (⟨wh call t b (sq call ss Q),n,h,λ n ρ H h => by rw [wh_eq] at h; rw [whF,whR_eq] at h; exact h⟩ : mS call (.while t b) ρ H (sq call ss Q))
theorem wh_stop {t : ME} {b : List MS} {Q : SPost} {n : Nat} (ht : evT H ρ t = some false) (h : Q .next ρ H) : wh call t b Q n ρ H := by
 rw [wh_eq]
 exact evT_ok (Q := λ r H' => (r = true → mSs call b ρ H' (whQ call t b Q n)) ∧ (r = false → Q .next ρ H')) t ht ⟨ft,λ _ => h⟩
theorem wh_step {t : ME} {b : List MS} {Q : SPost} {n : Nat} (ht : evT H ρ t = some true) (h : mSs call b ρ H (whQ call t b Q n)) : wh call t b Q n ρ H := by
 rw [wh_eq]
 exact evT_ok (Q := λ r H' => (r = true → mSs call b ρ H' (whQ call t b Q n)) ∧ (r = false → Q .next ρ H')) t ht ⟨λ _ => h,tf⟩
theorem wh_next {t : ME} {b : List MS} {Q : SPost} {n : Nat} {ρ : Locals} {H : AHeap} (h : wh call t b Q n ρ H) : whQ call t b Q (n + 1) .next ρ H := ⟨n,Nat.lt_succ_self n,h⟩
end
section
variable {call : Nat → Fn → List AV → AHeap → (AV → AHeap → Prop) → Prop} {n : Nat} {H H' : AHeap} {w : Wh} {σ σ' : Sg} {Q : AV → AHeap → Prop} {t : List Int}
theorem av_eq (r : Row) : r.av = .tup (.str r.tag :: r.tl) := by cases r <;> rfl
theorem nth_at {l : List Row} {j : Nat} (h : j < lim) : nth (l.map Row.av) (j : Int) = (l[j]?).map Row.av := by
 unfold nth
 rw [if_pos (by exact ar (.L K0 (.u N0)) 1 [_] []),if_pos (by exact (ar (.i (.t N0 N1) (.T (.u N0) (.u N1))) 2 [_,_] []) h)]
 simp
theorem row_at {A B : List Row} {r : Row} (h : A.length < lim) : nth ((A ++ r :: B).map Row.av) ((A.length : Int) + 1 - 1) = some r.av := by
 rw [show (A.length : Int) + 1 - 1 = (A.length : Nat) by exact ar (.E (.s (.a (.u N0) K1) K1) (.u N0)) 1 [_] [],nth_at h]
 simp
theorem c_above (C : Calls call) {L : Addr} {A D : List Row} (b : Nat) (hL : H L = some (.list ((A ++ List.replicate b Row.bnd ++ D).map Row.av))) (hA : ∀ r,A.getLast? = some r → r.isB = false) (hl : A.length + b < lim) (h : Q (.int A.length) H) :
   call (n + 1) .above_boundaries [.ref L,.int (A.length + b : Nat)] H Q := by
 refine enter C (as := [_,_]) (b := b_above_boundaries) rfl rfl rfl ?_
 have loop : ∀ (m : Nat) (ρ : Locals),ρ 0 = some (.ref L) → ρ 1 = some (.int (A.length + m : Nat)) → m ≤ b → wh (call n) (.and [(.cmp .gt (.var 1) (.int 0)),(.cmp .eq (.idx (.var 0) (.bin .sub (.var 1) (.int 1))) .bnd)]) [.assign 1 (.bin .sub (.var 1) (.int 1))] (sq (call n) [.ret (some (.var 1))] λ mf _ H' => match mf with | .next => Q .none H' | .ret v => Q v H') m ρ H := by
   intro m
   induction m with
   | zero =>
     intro ρ r0 r1 hm
     refine wh_stop ?_ (s_ret (v := .int A.length) (by assumption) h)
     cases hA' : A.getLast? with
     | none =>
       have : A = [] := List.getLast?_eq_none_iff.mp hA'
       subst this
       simp [r1]
     | some r =>
       obtain ⟨A',rfl⟩ : ∃ A',A = A' ++ [r] := List.getLast?_eq_some_iff.mp hA'
       have hn := row_at (A := A') (r := r) (B := List.replicate b Row.bnd ++ D) (by simp at hl; exact (ar (.i (.t (.a (.a N0 K1) N1) N2) (.t N0 N2)) 3 [_,_,_] []) hl)
       have hb := hA r hA'
       have hL' : H L = some (.list ((A' ++ r :: (List.replicate b Row.bnd ++ D)).map Row.av)) := by rw [hL]; simp
       have e1 : ((A'.length : Int) + 1) = (((A' ++ [r]).length + 0 : Nat) : Int) := by simp
       rw [e1] at hn
       have h0 : (0 : Int) < (((A' ++ [r]).length + 0 : Nat) : Int) := by simp <;> omega
       generalize (A' ++ r :: (List.replicate b Row.bnd ++ D)) = L0 at *
       simp only [evT_and,evA_cons,evT_cmp,ev_cmp,ev_var,ev_int,r0,r1,cmp_gt,Option.map_some,gt_iff_lt,h0,decide_true,ev_idx,ev_bin,opv_sub,idx_ref,hL',hn,ev_bnd,row_eq,hb,if_true]
       rfl
   | succ m ih =>
     intro ρ r0 r1 hm
     have hn := row_at (A := A ++ List.replicate m Row.bnd) (r := Row.bnd) (B := List.replicate (b - m - 1) Row.bnd ++ D) (by simp; exact (ar (.i (.l (.a N0 K1) N1) (.i (.t (.a N2 N1) N3) (.t (.a N2 N0) N3))) 4 [_,_,_,_] []) hm hl)
     have hL' : H L = some (.list (((A ++ List.replicate m Row.bnd) ++ Row.bnd :: (List.replicate (b - m - 1) Row.bnd ++ D)).map Row.av)) := by
       rw [hL]
       congr 3
       rw [← List.cons_append,← List.append_assoc]
       congr 1
       rw [List.append_assoc]
       congr 1
       conv => lhs; rw [show b = m + ((b - m - 1) + 1) by exact (ar (.i (.l (.a N0 K1) N1) (.e N1 (.a N0 (.a (.s (.s N1 N0) K1) K1)))) 2 [_,_] []) hm,← List.replicate_append_replicate,List.replicate_succ]
     have e1 : ((A ++ List.replicate m Row.bnd).length : Int) + 1 = ((A.length + (m + 1) : Nat) : Int) := by simp; exact ar (.E (.a (.a (.u N0) (.u N1)) K1) (.a (.u N0) (.a (.u N1) K1))) 2 [_,_] []
     rw [e1] at hn
     have h0 : (0 : Int) < ((A.length + (m + 1) : Nat) : Int) := by exact ar (.T K0 (.u (.a N0 (.a N1 K1)))) 2 [_,_] []
     refine wh_step ?_ (s_assign (v := .int (A.length + m : Nat)) (vi (v_bin r1 rfl rfl) (by exact (ar (.E (.s (.u (.a (.n 0) (.a (.n 1) (.k 1)))) (.k 1)) (.u (.a (.n 0) (.n 1)))) 2 [_,_] []))) (wh_next (ih _ (by assumption) (by rfl) (by exact (ar (.i (.l (.a N0 K1) N1) (.l N0 N1)) 2 [_,_] []) hm))))
     generalize (A ++ List.replicate m Row.bnd) ++ Row.bnd :: (List.replicate (b - m - 1) Row.bnd ++ D) = L0 at *
     exact (w_and (w_go (wt (w_cmp r1 rfl rfl) h0) (w_go (w_cmp (v_idl r0 (v_bin r1 rfl rfl) hL' hn) rfl rfl) rfl)))
 exact s_while b (loop b _ rfl rfl (Nat.le_refl _))
noncomputable def Row.isM : Row → Bool
 | .mrk _ _ => true
 | _ => false
theorem isM_tag {r : Row} (h : r.isM = true) : ∃ k d,r = .mrk k d := by cases r <;> first | exact ⟨_,_,rfl⟩ | cases h
theorem c_markers_ahead (C : Calls call) (B : Buf H w σ) {L : Addr} {A D : List Row} {M : List Row} (hM : ∀ r ∈ M,r.isM = true) (hL : H L = some (.list ((A ++ M ++ D).map Row.av))) (hA : ∀ r,A.getLast? = some r → r.isM = false) (nL : ¬ Ow w σ L) (hl : A.length + M.length < lim)
   (h : ∀ x H',H x = none → Go w σ H σ H' → H' x = some (.list (M.reverse.map Row.av)) → ¬ Ow w σ x → Q (.ref x) H') : call (n + 1) .markers_ahead [.ref L,.int (A.length + M.length : Nat)] H Q := by
 refine enter C (as := [_,_]) (b := b_markers_ahead) rfl rfl rfl ?_
 refine s_assignE (e_lst (vs := []) rfl λ x hx => ?_)
 have nx := B.new hx
 have hxL : L ≠ x := λ z => by rw [z,hx] at hL; exact nn hL
 have loop : ∀ (m : Nat) (R : List Row) (ρ : Locals) (H' : AHeap),m ≤ M.length → R = (M.drop m).reverse → ρ 0 = some (.ref L) → ρ 1 = some (.int (A.length + m : Nat)) → ρ 2 = some (.ref x) → Go w σ H σ H' → H' x = some (.list (R.map Row.av)) →
     wh (call n) (.and [(.cmp .gt (.var 1) (.int 0)),(.cmp .eq (.idx (.idx (.var 0) (.bin .sub (.var 1) (.int 1))) (.int 0)) (.str .marker))]) [.assign 1 (.bin .sub (.var 1) (.int 1)),.expr (.append (.var 2) (.idx (.var 0) (.var 1)))] (sq (call n) [.ret (some (.var 2))] λ mf _ H' => match mf with | .next => Q .none H' | .ret v => Q v H') m ρ H' := by
   intro m
   induction m with
   | zero =>
     intro R ρ H' hm hR r0 r1 r2 G hx'
     have hL1 := (G.ext L _ hL nL).1
     have hR' : R = M.reverse := by rw [hR]; rfl
     subst hR'
     refine wh_stop ?_ (s_ret (v := .ref x) (by assumption) (h x H' hx G hx' nx))
     cases hA' : A.getLast? with
     | none =>
       have : A = [] := List.getLast?_eq_none_iff.mp hA'
       subst this
       simp [r1]
     | some r =>
       obtain ⟨A',rfl⟩ : ∃ A',A = A' ++ [r] := List.getLast?_eq_some_iff.mp hA'
       have hn := row_at (A := A') (r := r) (B := M ++ D) (by simp at hl; exact (ar (.i (.t (.a (.a N0 K1) N1) N2) (.t N0 N2)) 3 [_,_,_] []) hl)
       have hb := hA r hA'
       have hL' : H' L = some (.list ((A' ++ r :: (M ++ D)).map Row.av)) := by rw [hL1]; simp
       have e1 : ((A'.length : Int) + 1) = (((A' ++ [r]).length + 0 : Nat) : Int) := by simp
       rw [e1] at hn
       have h0 : (0 : Int) < (((A' ++ [r]).length + 0 : Nat) : Int) := by simp <;> omega
       have tag : decide (r.tag = .marker) = false := by cases r <;> first | rfl | exact tf hb
       generalize (A' ++ r :: (M ++ D)) = L0 at *
       rw [av_eq] at hn
       simp only [evT_and,evA_cons,evT_cmp,ev_cmp,ev_var,ev_int,r0,r1,cmp_gt,Option.map_some,gt_iff_lt,h0,decide_true,ev_idx,ev_bin,opv_sub,idx_ref,hL',hn,idx_tup,nth_0,ev_str,cmp_eqs,tag,if_true]
       rfl
   | succ m ih =>
     intro R ρ H' hm hR r0 r1 r2 G hx'
     have hL1 := (G.ext L _ hL nL).1
     have hlt : m < M.length := by exact (ar (.i (.l (.a N0 K1) N1) (.t N0 N1)) 2 [_,_] []) hm
     obtain ⟨k,d,hr⟩ := isM_tag (hM M[m] (List.getElem_mem hlt))
     have hsp : A ++ M ++ D = (A ++ M.take m) ++ .mrk k d :: (M.drop (m + 1) ++ D) := by
       have e : M = M.take m ++ M[m] :: M.drop (m + 1) := by rw [← List.drop_eq_getElem_cons hlt,List.take_append_drop]
       rw [hr] at e
       conv => lhs; rw [e]
       simp
     have hn := row_at (A := A ++ M.take m) (r := .mrk k d) (B := M.drop (m + 1) ++ D) (by simp; exact (ar (.i (.t (.a N0 N1) N2) (.t (.a N0 (.i N3 N1)) N2)) 4 [_,_,_,_] []) hl)
     have e1 : ((A ++ M.take m).length : Int) + 1 = ((A.length + (m + 1) : Nat) : Int) := by rw [List.length_append,List.length_take]; exact (ar (.i (.l (.a N0 K1) N1) (.E (.a (.u (.a N2 (.i N0 N1))) K1) (.u (.a N2 (.a N0 K1))))) 3 [_,_,_] []) hm
     rw [e1] at hn
     have e2 : ((A.length + (m + 1) : Nat) : Int) - 1 = ((A.length + m : Nat) : Int) := by exact ar (.E (.s (.u (.a N0 (.a N1 K1))) K1) (.u (.a N0 N1))) 2 [_,_] []
     have hL' : H' L = some (.list (((A ++ M.take m) ++ .mrk k d :: (M.drop (m + 1) ++ D)).map Row.av)) := by rw [hL1,hsp]
     have h0 : (0 : Int) < ((A.length + (m + 1) : Nat) : Int) := by exact ar (.T K0 (.u (.a N0 (.a N1 K1)))) 2 [_,_] []
     generalize ((A ++ M.take m) ++ .mrk k d :: (M.drop (m + 1) ++ D)) = L0 at *
     have hRl : R.length ≤ M.length := by rw [hR]; simp <;> omega
     have hn' := hn
     rw [e2] at hn'
     refine wh_step ?_ (s_assign (v := .int (A.length + m : Nat)) (vi (v_bin r1 rfl rfl) e2) (s_expr (e_append (x := x) (u := (Row.mrk k d).av) r2 hx' ?_ (by simp; exact (ar (.i (.l N0 N1) (.i (.t (.a N2 N1) N3) (.t N0 N3))) 4 [_,_,_,_] []) hRl hl) ?_)))
     · have f : nth [AV.str .marker,.ref k,.int d] 0 = some (.str .marker) := rfl
       have hn2 : nth (L0.map Row.av) (((A.length + (m + 1) : Nat) : Int) - 1) = some (.tup [.str .marker,.ref k,.int d]) := hn
       simp only [evT_and,evA_cons,evT_cmp,ev_cmp,ev_var,ev_int,r0,r1,cmp_gt,Option.map_some,gt_iff_lt,h0,decide_true,ev_idx,ev_bin,opv_sub,idx_ref,hL',hn2,idx_tup,f,ev_str,cmp_eqs,evA_nil,if_true]
     · have a0 : (upd ρ 1 (.int (A.length + m : Nat))) 0 = some (.ref L) := r0
       have a1 : (upd ρ 1 (.int (A.length + m : Nat))) 1 = some (.int (A.length + m : Nat)) := rfl
       simp only [ev_idx,ev_var,a0,a1,idx_ref,hL',hn']
     · rw [map_snoc]
       refine wh_next (ih (R ++ [.mrk k d]) _ _ (by exact (ar (.i (.l (.a N0 K1) N1) (.l N0 N1)) 2 [_,_] []) hm) ?_ (by simp [r0]) (by rfl) (by simp [r2]) (G.poke hx hx' nx) at_self)
       rw [hR,← hr,List.drop_eq_getElem_cons hlt,List.reverse_cons]
 exact s_while M.length (loop M.length [] _ _ (Nat.le_refl _) (by simp) rfl rfl rfl (Go.new B hx) at_self)
end

end P_C16

section P_C17
open PySem

noncomputable def sub1 (k : Addr) (d : Int) (r : Mk) : Mk := if r.k = k then { r with pos := r.pos - d } else r
noncomputable def subs : List (Addr × Int) → List Mk → List Mk
 | [],l => l
 | (k,d) :: r,l => subs r (l.map (sub1 k d))
noncomputable def mrkRows (V : List (Addr × Int)) : List Row := V.map λ p => .mrk p.1 p.2
noncomputable def inKeys (V : List (Addr × Int)) (l : List Mk) : Prop := ∀ p ∈ V,∃ r ∈ l,r.k = p.1
section
variable {call : Nat → Fn → List AV → AHeap → (AV → AHeap → Prop) → Prop} {n : Nat} {H H' : AHeap} {w : Wh} {σ σ' : Sg} {Q : AV → AHeap → Prop} {t : List Int}
theorem st_pt (m : Bool) (tick p : Int) : ({ σ with pt := p } : Sg).st m tick = { σ.st m tick with pt := p } := by
 unfold Sg.st; split <;> rfl
theorem goto_in {p z : Int} (h1 : 1 ≤ p) (h2 : p ≤ z) : min (max p 1) z = p := by exact (ar (.i (.L K1 Z0) (.i (.L Z0 Z1) (.E (.i (.o Z0 K1) Z1) Z0))) 2 [] [_,_]) h1 h2
theorem Ed.at (X : Ed σ t) {p : Int} (h1 : 1 ≤ p) (h2 : p ≤ σ.zv) : Ed { σ with pt := p } t := ⟨X.txt.of rfl rfl rfl,X.zv,X.ok,h1,h2⟩
theorem c_goto' (C : Calls call) (B : Buf H w σ) {p : Int} (h1 : 1 ≤ p) (h2 : p ≤ σ.zv) (h : ∀ v H',Go w σ H { σ with pt := p } H' → Q v H') : call (n + 1) .buf_goto [.ref w.b,.int p] H Q := by
 refine c_goto C B λ H' G => ?_
 rw [goto_in h1 h2] at G
 exact h _ H' G
theorem c_undo_insert (C : Calls call) (B : Buf H w σ) (un : σ.un = true) (X : Ed σ t) {s e : Int} (h1 : 1 ≤ s) (h2 : s < e) (h3 : e ≤ σ.zv) (hl : σ.rows.length + 20 < lim)
   (h : ∀ H' c a b pc,Ed (({ σ with pt := s } : Sg).deld s e pc c a b) (delT t s e) → PcF H w (({ σ with pt := s } : Sg).deld s e pc c a b) H' pc (midT t s e) → Go w σ H (({ σ with pt := s } : Sg).deld s e pc c a b) H' → Q .none H') :
   call (n + 6) .undo_insert [.ref w.b,(Row.ins s e).av] H Q := by
 refine enter C (as := [_,_]) (b := b_undo_insert) rfl rfl rfl ?_
 have hb := B.b
 refine s_expr (e_call (vs := [.ref w.b,.int s,.int e]) (by rfl) (c_need_visible C B h1 h3 ?_))
 refine s_expr (e_meth (x := w.b) (by rfl) hb rfl rfl (vs := [.int s]) (by rfl) (c_goto' C B h1 (by exact (ar (.i (.L Z0 Z1) (.i (.T Z2 Z0) (.L Z2 Z1))) 3 [] [_,_,_]) h3 h2) λ v H1 G1 => ?_))
 refine s_expr (e_call (vs := [.ref w.b,.int s,.int e]) (by rfl) (c_delete C G1.buf un (X.at h1 (by exact (ar (.i (.L Z0 Z1) (.i (.T Z2 Z0) (.L Z2 Z1))) 3 [] [_,_,_]) h3 h2)) h1 h2 h3 hl λ v H2 c a b pc X2 Hp G2 => ?_))
 exact h H2 c a b pc X2 (Hp.base λ x hx => G1.none (λ _ o => o) hx) (G1.trans G2)
theorem cmp_in {d : Addr} {es : List (Int × AV)} (hd : H d = some (.idict es)) (k : Int) : cmpv H .in_ (.int k) (.ref d) = some (keyOf es k).isSome := by
 refine (?_ : (match H d with | some (.idict es) => some (keyOf es k).isSome | _ => none) = _)
 rw [hd]
theorem key_some {l : List Mk} {r : Mk} (hr : r ∈ l) : (keyOf (dictOfMs l) r.num).isSome = true := by
 unfold keyOf dictOfMs
 induction l with
 | nil => cases hr
 | cons a l ih =>
   rw [List.map_cons,List.lookup_cons]
   by_cases h : r.num = a.num
   · simp [h]
   · have hb : (r.num == a.num) = false := by simpa using h
     rw [hb]
     rcases List.mem_cons.mp hr with rfl | hr
     · exact absurd rfl h
     · exact ih hr
theorem valid_loop {call : Fn → List AV → AHeap → (AV → AHeap → Prop) → Prop} {x xv : Addr} {L : List AV} {s : Int} {row : AV} {Qs : SPost} (hrow : ∀ H,idxv H row (.int 1) = some (.int s)) (h0 : H xv = none) : ∀ (V acc : List (Addr × Int)) (ρ : Locals) (H' : AHeap),(∀ p ∈ V,∃ r ∈ σ.ms,r.k = p.1 ∧ r.pos = s) → acc.length + V.length < lim →
     ρ 0 = some (.ref w.b) → ρ 1 = some row → ρ 3 = some (.ref xv) → Go w σ H σ H' → x ≠ xv → H' x = some (.list L) → H' xv = some (.list (tups acc)) → ¬ Ow w σ xv →
     (∀ ρ'' H'',(∀ i,i < 4 → ρ'' i = ρ i) → Go w σ H σ H'' → H'' xv = some (.list (tups (acc ++ V))) → Qs .next ρ'' H'') →
     mFor (bindT [4,5,6] false) (λ H' => H' x = some (.list L)) (λ ρ' H' Q' => mSs call [.ite (.and [(.cmp .in_ (.attr (.var 5) .number) (.attr (.attr (.var 0) .markers) .rows)),(.cmp .eq (.attr (.var 5) .position) (.idx (.var 1) (.int 1)))]) [.expr (.append (.var 3) (.tup [(.var 5),(.var 6)]))] []] ρ' H' Q') ((mrkRows V).map Row.av) ρ H' Qs
 | [],acc,ρ,H',hV,hl,r0,r1,r3,G,nx,hx,hv,no,h => h ρ H' (λ _ _ => rfl) G (by simpa using hv)
 | (k,d) :: V,acc,ρ,H',hV,hl,r0,r1,r3,G,nx,hx,hv,no,h => by
   obtain ⟨r,hr,hk,hp⟩ := hV (k,d) (.head _)
   have hk : r.k = k := hk
   subst hk
   refine ⟨_,bindT_more [4,5,6] [.str .marker,.ref r.k,.int d] ρ rfl, ?_⟩
   have hb := G.buf.b
   have hm := G.buf.m
   have hd := G.buf.md
   have hmk := G.buf.mks r hr
   have hin := cmp_in hd r.num
   rw [key_some hr] at hin
   have hi := hrow H'
   simp only [List.length_cons] at hl
   refine s_iteT (w_and (w_go (w_cmp (v_at rfl hmk rfl) (v_at (v_at r0 hb rfl) hm rfl) hin) (w_go (wq (w_cmp (v_at rfl hmk rfl) (v_idx r1 rfl hi) rfl) (beq_iff_eq.mpr hp)) rfl))) (s_expr (e_append (x := xv) (u := .tup [.ref r.k,.int d]) (by assumption) hv (by rfl) (by simp only [tups,List.length_map]; exact (ar (.i (.t (.a N0 (.a N1 K1)) N2) (.t N0 N2)) 3 [_,_,_] []) hl) (s_back ?_)))
   have e1 : tups acc ++ [.tup [.ref r.k,.int d]] = tups (acc ++ [(r.k,d)]) := by simp [tups]
   rw [e1]
   refine ⟨at_other hx nx,valid_loop hrow h0 V (acc ++ [(r.k,d)]) _ _ (λ p hp => hV p (.tail _ hp)) (by simp; exact (ar (.i (.t (.a N0 (.a N1 K1)) N2) (.t (.a (.a N0 K1) N1) N2)) 3 [_,_,_] []) hl) (by assumption) (by assumption) (by assumption) (G.poke h0 hv no) nx (at_other hx nx) at_self no λ ρ'' H'' hρ G'' hv'' => h ρ'' H'' (λ i hi => ?_) G'' (by simpa using hv'')⟩
   rw [hρ i hi]
   have : i ≠ 4 ∧ i ≠ 5 ∧ i ≠ 6 := by exact (ar (.i (.t N0 K4) (.a (.i (.e N0 K4) .f) (.a (.i (.e N0 K5) .f) (.i (.e N0 K6) .f)))) 1 [_] []) hi
   simp [this]
theorem sub_split {l : List Mk} {k : Addr} (h : l.Pairwise λ x y => x.k ≠ y.k) {r : Mk} (hr : r ∈ l) (hk : r.k = k) (d : Int) : ∃ l₁ l₂,l = l₁ ++ r :: l₂ ∧ l.map (sub1 k d) = l₁ ++ { r with pos := r.pos - d } :: l₂ := by
 obtain ⟨l₁,l₂,rfl⟩ := List.append_of_mem hr
 refine ⟨l₁,l₂,rfl, ?_⟩
 rw [List.pairwise_append,List.pairwise_cons] at h
 obtain ⟨_,⟨h2,_⟩,h3⟩ := h
 have e1 : l₁.map (sub1 k d) = l₁ := by
   conv => rhs; rw [← List.map_id l₁]
   refine List.map_congr_left λ a ha => ?_
   have : a.k ≠ k := hk ▸ h3 a ha r (.head _)
   simp [sub1,this]
 have e2 : l₂.map (sub1 k d) = l₂ := by
   conv => rhs; rw [← List.map_id l₂]
   refine List.map_congr_left λ a ha => ?_
   have : a.k ≠ k := hk ▸ (h2 a ha).symm
   simp [sub1,this]
 rw [List.map_append,List.map_cons,e1,e2]
 simp [sub1,hk]
theorem sub_keys (k : Addr) (d : Int) (l : List Mk) : ∀ p,(∃ r ∈ l,r.k = p) → ∃ r ∈ l.map (sub1 k d),r.k = p := by
 rintro p ⟨r,hr,e⟩
 refine ⟨sub1 k d r,List.mem_map_of_mem hr, ?_⟩
 unfold sub1; split <;> exact e
theorem sub_loop {call : Fn → List AV → AHeap → (AV → AHeap → Prop) → Prop} {x : Addr} {L : List AV} {Qs : SPost} : ∀ (V : List (Addr × Int)) (σ : Sg) (ρ : Locals) (H' : AHeap),inKeys V σ.ms → Buf H' w σ → H' x = some (.list L) → ¬ Ow w σ x →
     (∀ ρ'' H'',Go w σ H' { σ with ms := subs V σ.ms } H'' → Qs .next ρ'' H'') →
     mFor (bindT [5,6] false) (λ H' => H' x = some (.list L)) (λ ρ' H' Q' => mSs call [.setAttr (.var 5) .position (.bin .sub (.attr (.var 5) .position) (.var 6))] ρ' H' Q') (tups V) ρ H' Qs
 | [],σ,ρ,H',hV,B,hx,no,h => h ρ H' (Go.refl B)
 | (k,d) :: V,σ,ρ,H',hV,B,hx,no,h => by
   obtain ⟨r,hr,hk⟩ := hV (k,d) (.head _)
   have hk : r.k = k := hk
   obtain ⟨l₁,l₂,e1,e2⟩ := sub_split B.n3 hr hk d
   refine ⟨_,bindT_more [5,6] [.ref k,.int d] ρ rfl, ?_⟩
   have hmk := B.mks r hr
   rw [hk] at hmk
   refine s_setAttr (x := k) (u := .int (r.pos - d)) (v_bin (v_at rfl hmk rfl) rfl rfl) (by rfl) hmk rfl (by decide) rfl ?_
   have G := B.pos e1 (r.pos - d)
   rw [← e2,hk] at G
   generalize H'.set k _ = H1 at *
   obtain ⟨hx1,no1⟩ := G.ext x _ hx no
   exact ⟨hx1,sub_loop V _ _ H1 (λ p hp => sub_keys k d σ.ms p.1 (hV p (.tail _ hp))) G.buf hx1 no1 λ ρ'' H'' G2 => h ρ'' H'' (G.trans G2)⟩
theorem mapP_keys (f : Mk → Int) {V : List (Addr × Int)} {l : List Mk} (h : inKeys V l) : inKeys V (mapP f l) := λ p hp => by
 obtain ⟨r,hr,e⟩ := h p hp
 exact ⟨{ r with pos := f r },List.mem_map_of_mem hr,e⟩
noncomputable def Sg.und (σ : Sg) (s n : Int) (q : Bool) (V : List (Addr × Int)) (c : List AV) (a e : Int) : Sg := { ({ σ with pt := s } : Sg).insd n c a e with pt := if q = true then s + n else s,ms := subs V (mapP (fIns s (s + n) false) σ.ms) }
theorem sub_ok {k : Addr} {d : Int} {l : List Mk} (h : MsOk l) : MsOk (l.map (sub1 k d)) := by
 have e : dictOfMs (l.map (sub1 k d)) = dictOfMs l := by
   simp only [dictOfMs,List.map_map]
   refine List.map_congr_left λ r _ => ?_
   refine (?_ : ((sub1 k d r).num,AV.ref (sub1 k d r).k) = _)
   unfold sub1; split <;> rfl
 unfold MsOk at h ⊢; rw [e]; exact h
theorem subs_ok : ∀ {V : List (Addr × Int)} {l : List Mk},MsOk l → MsOk (subs V l)
 | [],_,h => h
 | (_,_) :: V,_,h => subs_ok (V := V) (sub_ok h)
theorem c_undo_delete (C : Calls call) (B : Buf H w σ) (un : σ.un = true) (X : Ed σ t) {s : Int} {pc x : Addr} {q : Bool} {l : List Int} {V : List (Addr × Int)} (h1 : 1 ≤ s) (h2 : s ≤ σ.zv) (hp : PcN w σ H pc l) (h0 : l ≠ []) (hs : t.length + l.length ≤ 1000) (hx : H x = some (.list ((mrkRows V).map Row.av))) (nx : ¬ Ow w σ x) (hVl : V.length ≤ 10)
   (hV : ∀ p ∈ V,∃ r ∈ σ.ms,r.k = p.1 ∧ r.pos = s) (hr : σ.rows.length + 2 < lim ∧ lastIns (σ.st (decide (σ.sv < σ.tk)) σ.sv).rows = false)
   (h : ∀ H' c a e,Ed (σ.und s l.length q V c a e) (insT t s l) → Go w σ H (σ.und s l.length q V c a e) H' → Q .none H') :
   call (n + 8) .undo_delete [.ref w.b,(Row.del s pc q).av,.ref x] H Q := by
 refine enter C (as := [_,_,_]) (b := b_undo_delete) rfl rfl rfl ?_
 have hb := B.b
 refine s_expr (e_call (vs := [.ref w.b,.int s,.int s]) (by rfl) (c_need_visible C B h1 h2 ?_))
 refine s_assignE (e_lst (vs := []) rfl λ xv hxv => ?_)
 have G1 := Go.new (o := .list (tups [])) B hxv
 have hv1 : (H.set xv (.list (tups []))) xv = some _ := at_self
 have nv := B.new hxv
 have nxv : x ≠ xv := λ z => by rw [z,hxv] at hx; exact nn hx
 have E1 : (H.set xv (.list [])) = H.set xv (.list (tups [])) := rfl
 rw [E1]
 have hx1 := at_other (x := .list (tups [])) hx nxv
 generalize H.set xv (.list (tups [])) = H1 at *
 refine s_for (l := x) (by rfl) hx1 (valid_loop (σ := σ) (s := s) (row := (Row.del s pc q).av) (λ _ => rfl) hxv V [] _ H1 hV (by simp; unfold lim; exact (ar (.i (.l N0 (.k 10)) (.t N0 KM)) 1 [_] []) hVl) rfl rfl rfl G1 nxv hx1 hv1 nv λ ρ2 H2 hρ G2 hv2 => ?_)
 have r0 : ρ2 0 = some (.ref w.b) := (hρ 0 (by decide)).trans rfl
 have r1 : ρ2 1 = some (Row.del s pc q).av := (hρ 1 (by decide)).trans rfl
 have r3 : ρ2 3 = some (.ref xv) := (hρ 3 (by decide)).trans rfl
 rw [List.nil_append] at hv2
 have hb2 := G2.buf.b
 have hp2 := hp.go G2
 refine s_expr (e_meth (x := w.b) (by assumption) hb2 rfl rfl (vs := [.int s]) (v_cons (v_idx r1 rfl rfl) rfl) (c_goto' C G2.buf h1 h2 λ v H3 G3 => ?_))
 obtain ⟨hv3,nv3⟩ := G3.ext xv _ hv2 nv
 have hp3 := hp2.go G3
 refine s_expr (e_call (vs := [.ref w.b,.ref pc]) (v_cons r0 (v_cons (v_idx r1 rfl rfl) rfl)) (c_insert_piece C G3.buf un (X.at h1 h2) hp3 h0 hs ⟨hr.1,by rw [st_pt]; exact hr.2⟩ λ H4 c a e X4 G4 => ?_))
 obtain ⟨hv4,nv4⟩ := G4.ext xv _ hv3 nv3
 have hb4 := G4.buf.b
 have ok4 : MsOk (mapP (fIns s (s + l.length) false) σ.ms) := ms_mapP X.ok
 have hz4 := X4.zv
 have key : inKeys V σ.ms := λ p hp => by obtain ⟨r,hr,e,_⟩ := hV p hp; exact ⟨r,hr,e⟩
 have fin : ∀ H5 pt5,(if q = true then s + (l.length : Int) else s) = pt5 → Go w (({ σ with pt := s } : Sg).insd l.length c a e) H4 { ({ σ with pt := s } : Sg).insd l.length c a e with pt := pt5 } H5 →
     mSs (call (n + 7)) [.forList [5,6] false (.var 3) [.setAttr (.var 5) .position (.bin .sub (.attr (.var 5) .position) (.var 6))]] ρ2 H5 (λ mf _ H' => match mf with | .next => Q .none H' | .ret v => Q v H') := by
   intro H5 pt5 ept G5
   obtain ⟨hv5,nv5⟩ := G5.ext xv _ hv4 nv4
   refine s_for (l := xv) (by assumption) hv5 (sub_loop V _ ρ2 H5 (mapP_keys _ key) G5.buf hv5 nv5 λ ρ6 H6 G6 => ?_)
   have Gt := G2.trans (G3.trans (G4.trans (G5.trans G6)))
   have hh := h H6 c a e
   have eσ : σ.und s l.length q V c a e = { ({ ({ σ with pt := s } : Sg).insd l.length c a e with pt := pt5 } : Sg) with ms := subs V (({ ({ σ with pt := s } : Sg).insd l.length c a e with pt := pt5 } : Sg)).ms } := by
     unfold Sg.und; rw [ept]; rfl
   rw [eσ] at hh
   have hzz : σ.zv + (l.length : Int) = (insT t s l).length + 1 := hz4
   refine hh ⟨X4.txt.of rfl rfl rfl,hzz,subs_ok ok4, ?_, ?_⟩ Gt
   · refine (?_ : 1 ≤ pt5)
     rw [← ept]; split <;> (first | exact (ar (.i (.L K1 Z0) (.L K1 (.a Z0 (.u N0)))) 1 [_] [_]) h1 | exact (ar (.i (.L K1 Z0) (.L K1 Z0)) 1 [] [_]) h1)
   · refine (?_ : pt5 ≤ σ.zv + (l.length : Int))
     rw [← ept]; split <;> (first | exact (ar (.i (.L Z0 Z1) (.L (.a Z0 (.u N0)) (.a Z1 (.u N0)))) 2 [_] [_,_]) h2 | exact (ar (.i (.L Z0 Z1) (.L Z0 (.a Z1 (.u N0)))) 2 [_] [_,_]) h2)
 cases q with
 | true =>
   refine s_skip (w_nT (w_ix (v_idx r1 rfl rfl))) (fin H4 _ rfl ?_)
   exact Go.refl G4.buf
 | false =>
   refine s_iteT (w_nF (w_ix (v_idx r1 rfl rfl))) (s_expr (e_meth (x := w.b) (by assumption) hb4 rfl rfl (vs := [.int s]) (v_cons (v_idx r1 rfl rfl) rfl) (c_goto' C G4.buf h1 ?_ λ v H5 G5 => s_back (fin H5 s rfl G5))))
   refine (?_ : s ≤ σ.zv + (l.length : Int))
   exact (ar (.i (.L Z0 Z1) (.L Z0 (.a Z1 (.u N0)))) 2 [_] [_,_]) h2
end

end P_C17

section P_C18
open PySem

section
variable {call : Nat → Fn → List AV → AHeap → (AV → AHeap → Prop) → Prop} {n : Nat} {H H' : AHeap} {w : Wh} {σ σ' : Sg} {Q : AV → AHeap → Prop} {t : List Int} {A D : List Row} {L : Addr}
noncomputable def rowRest : List MS := [
 .ite (.cmp .eq (.idx (.var 3) (.int 0)) (.str .insert)) [.expr (.call .undo_insert [(.var 0),(.var 3)])] [.ite (.cmp .eq (.idx (.var 3) (.int 0)) (.str .delete)) [.assign 4 (.call .markers_ahead [(.var 1),(.var 2)]),.expr (.call .undo_delete [(.var 0),(.var 3),(.var 4)]),.assign 2 (.bin .sub (.var 2) (.len (.var 4)))] [.ite (.cmp .eq (.idx (.var 3) (.int 0)) (.str .point)) [.expr (.meth (.var 0) .goto [(.idx (.var 3) (.int 1))])] [.ite (.cmp .eq (.idx (.var 3) (.int 0)) (.str .property)) [.expr (.call .need_visible [(.var 0),(.idx (.var 3) (.int 1)),(.idx (.var 3) (.int 2))]),.expr .stop] [.ite (.and [(.cmp .eq (.idx (.var 3) (.int 0)) (.str .unmodified)),(.cmp .eq (.idx (.var 3) (.int 1)) (.attr (.var 0) .saved_ticks))]) [.expr (.meth (.var 0) .set_modified [(.bool false)]),.ite (.cmp .isNot (.attr (.var 0) .undo) .none) [.expr (.meth (.attr (.attr (.var 0) .undo) .list) .renew_unmodified [(.idx (.var 3) (.int 1)),(.attr (.var 0) .saved_ticks)])] []] []]]]],
 .ret (some (.var 2))]
noncomputable abbrev postQ (Q : AV → AHeap → Prop) : SPost := λ mf _ H' => match mf with | .next => Q .none H' | .ret v => Q v H'
theorem row_in (C : Calls call) {r : Row} (hL : H L = some (.list ((A ++ r :: D).map Row.av))) (hl : A.length + 1 < lim)
   (h : ∀ ρ : Locals,ρ 0 = some (.ref w.b) → ρ 1 = some (.ref L) → ρ 3 = some r.av → ρ 2 = some (.int A.length) → mSs (call n) rowRest ρ H (postQ Q)) : call (n + 1) .undo_row [.ref w.b,.ref L,.int (A.length + 1 : Nat)] H Q := by
 refine enter C (as := [_,_,_]) (b := b_undo_row) rfl rfl rfl ?_
 have hn := row_at (A := A) (r := r) (B := D) (by exact (ar (.i (.t (.a N0 K1) N1) (.t N0 N1)) 2 [_,_] []) hl)
 have e1 : ((A.length + 1 : Nat) : Int) - 1 = (A.length : Int) + 1 - 1 := by exact ar (.E (.s (.u (.a N0 K1)) K1) (.s (.a (.u N0) K1) K1)) 1 [_] []
 have e2 : (A.length : Int) + 1 - 1 = A.length := by exact ar (.E (.s (.a (.u N0) K1) K1) (.u N0)) 1 [_] []
 refine s_assign (v := r.av) ?_ (s_assign (v := .int A.length) (vi (v_bin rfl rfl rfl) (by exact (ar (.E (.s (.u (.a (.n 0) (.k 1))) (.k 1)) (.u (.n 0))) 1 [_] []))) (h _ rfl rfl rfl rfl))
 generalize (A ++ r :: D).map Row.av = L0 at *
 simp only [ev_idx,ev_var,argL_1,argL_2,ev_bin,ev_int,opv_sub,idx_ref,hL,e1,hn]
theorem r_ins (C : Calls call) (B : Buf H w σ) (un : σ.un = true) (X : Ed σ t) {s e : Int} (hL : H L = some (.list ((A ++ .ins s e :: D).map Row.av))) (hl : A.length + 1 < lim) (h1 : 1 ≤ s) (h2 : s < e) (h3 : e ≤ σ.zv) (hr : σ.rows.length + 20 < lim)
   (h : ∀ H' c a b pc,Ed (({ σ with pt := s } : Sg).deld s e pc c a b) (delT t s e) → PcF H w (({ σ with pt := s } : Sg).deld s e pc c a b) H' pc (midT t s e) → Go w σ H (({ σ with pt := s } : Sg).deld s e pc c a b) H' → Q (.int A.length) H') :
   call (n + 7) .undo_row [.ref w.b,.ref L,.int (A.length + 1 : Nat)] H Q := by
 refine row_in (D := D) C hL hl λ ρ r0 r1 r3 r2 => ?_
 refine s_iteT (w_cmp (v_idx r3 rfl rfl) rfl rfl) (s_expr (e_call (vs := [.ref w.b,(Row.ins s e).av]) (v_cons r0 (v_cons r3 rfl)) (c_undo_insert C B un X h1 h2 h3 hr λ H' c a b pc X' Hp G => s_back ?_)))
 exact s_ret (v := .int A.length) (by assumption) (h H' c a b pc X' Hp G)
theorem r_del (C : Calls call) (B : Buf H w σ) (un : σ.un = true) (X : Ed σ t) {s : Int} {pc : Addr} {q : Bool} {l : List Int} {W : List (Addr × Int)} (hL : H L = some (.list ((A ++ mrkRows W ++ .del s pc q :: D).map Row.av))) (nL : ¬ Ow w σ L) (hl : A.length + W.length + 1 < lim)
   (hA : ∀ r,A.getLast? = some r → r.isM = false) (h1 : 1 ≤ s) (h2 : s ≤ σ.zv) (hp : PcN w σ H pc l) (h0 : l ≠ []) (hs : t.length + l.length ≤ 1000) (hW : W.length ≤ 10) (hV : ∀ p ∈ W,∃ r ∈ σ.ms,r.k = p.1 ∧ r.pos = s) (hr : σ.rows.length + 2 < lim ∧ lastIns (σ.st (decide (σ.sv < σ.tk)) σ.sv).rows = false)
   (h : ∀ H' c a e,Ed (σ.und s l.length q W.reverse c a e) (insT t s l) → Go w σ H (σ.und s l.length q W.reverse c a e) H' → Q (.int A.length) H') :
   call (n + 9) .undo_row [.ref w.b,.ref L,.int ((A ++ mrkRows W).length + 1 : Nat)] H Q := by
 have hwl : (mrkRows W).length = W.length := by simp [mrkRows]
 refine row_in (D := D) C hL (by rw [List.length_append,hwl]; exact (ar (.i (.t (.a (.a N0 N1) K1) N2) (.t (.a (.a N0 N1) K1) N2)) 3 [_,_,_] []) hl) λ ρ r0 r1 r3 r2 => ?_
 have hL2 : H L = some (.list ((A ++ mrkRows W ++ (.del s pc q :: D)).map Row.av)) := hL
 have e2 : ((A ++ mrkRows W).length : Int) = ((A.length + (mrkRows W).length : Nat) : Int) := by rw [List.length_append]
 refine s_iteF (w_cmp (v_idx r3 rfl rfl) rfl rfl) (s_iteT (w_cmp (v_idx r3 rfl rfl) rfl rfl) ?_)
 refine s_assignE (e_call (vs := [.ref L,.int (A.length + (mrkRows W).length : Nat)]) (v_cons r1 (v_cons (vi r2 e2) rfl)) (c_markers_ahead C B (λ r hr => ?_) hL2 hA nL (by rw [hwl]; exact (ar (.i (.t (.a (.a N0 N1) K1) N2) (.t (.a N0 N1) N2)) 3 [_,_,_] []) hl) λ x H1 hx G1 hx1 nx => ?_))
 · obtain ⟨p,_,rfl⟩ := List.mem_map.mp hr; rfl
 have e3 : (mrkRows W).reverse = mrkRows W.reverse := by simp [mrkRows]
 rw [e3] at hx1
 have hp1 := hp.go G1
 refine s_expr (e_call (vs := [.ref w.b,(Row.del s pc q).av,.ref x]) (v_cons r0 (v_cons r3 rfl)) (c_undo_delete C G1.buf un X h1 h2 hp1 h0 hs hx1 nx (by simpa using hW) (λ p hp => hV p (List.mem_reverse.mp hp)) hr λ H2 c a e X2 G2 => ?_))
 obtain ⟨hx2,_⟩ := G2.ext x _ hx1 nx
 have hwl2 : (mrkRows W.reverse).length ≤ lim := by simp [mrkRows]; unfold lim; exact (ar (.i (.l N0 (.k 10)) (.l N0 KM)) 1 [_] []) hW
 have hwl3 : (mrkRows W.reverse).length = W.length := by simp [mrkRows]
 refine s_assign (v := .int A.length) ?_ (s_back (s_back (s_ret (v := .int A.length) (by rfl) (h H2 c a e X2 (G1.trans G2)))))
 have hl4 : ((mrkRows W.reverse).map Row.av).length = W.length := by rw [List.length_map,hwl3]
 generalize (mrkRows W.reverse).map Row.av = L0 at *
 have a4 : (upd ρ 4 (.ref x)) 4 = some (.ref x) := rfl
 have a2 : (upd ρ 4 (.ref x)) 2 = some (.int (A ++ mrkRows W).length) := r2
 have hle : W.length ≤ lim := by exact (ar (.i (.e N0 N1) (.i (.l N0 N2) (.l N1 N2))) 3 [_,_,_] []) hwl3 hwl2
 simp only [ev_bin,ev_var,ev_len,a4,a2,hx2,hl4,hle,if_true,opv_sub]
 congr 2
 rw [List.length_append,hwl]; exact ar (.E (.s (.u (.a N0 N1)) (.u N1)) (.u N0)) 2 [_,_] []
theorem r_pnt (C : Calls call) (B : Buf H w σ) {p : Int} (hL : H L = some (.list ((A ++ .pnt p :: D).map Row.av))) (hl : A.length + 1 < lim)
   (h : ∀ H',Go w σ H { σ with pt := min (max p 1) σ.zv } H' → Q (.int A.length) H') : call (n + 2) .undo_row [.ref w.b,.ref L,.int (A.length + 1 : Nat)] H Q := by
 refine row_in (D := D) C hL hl λ ρ r0 r1 r3 r2 => ?_
 have hb := B.b
 refine s_iteF (w_cmp (v_idx r3 rfl rfl) rfl rfl) (s_iteF (w_cmp (v_idx r3 rfl rfl) rfl rfl) (s_iteT (w_cmp (v_idx r3 rfl rfl) rfl rfl) ?_))
 refine s_expr (e_meth (x := w.b) (by assumption) hb rfl rfl (vs := [.int p]) (v_cons (v_idx r3 rfl rfl) rfl) (c_goto C B λ H1 G1 => s_back (s_back (s_back ?_))))
 exact s_ret (v := .int A.length) (by assumption) (h H1 G1)
theorem r_unm (C : Calls call) (B : Buf H w σ) (un : σ.un = true) (hL : H L = some (.list ((A ++ .unm σ.sv :: D).map Row.av))) (hl : A.length + 1 < lim) (hr : σ.rows.length ≤ lim)
   (h : ∀ H' x,Go w σ H { σ with sv := σ.tk,ul := x,rows := σ.rows.map (ren σ.sv σ.tk) } H' → Q (.int A.length) H') : call (n + 2) .undo_row [.ref w.b,.ref L,.int (A.length + 1 : Nat)] H Q := by
 refine row_in (D := D) C hL hl λ ρ r0 r1 r3 r2 => ?_
 have hb := B.b
 refine s_iteF (w_cmp (v_idx r3 rfl rfl) rfl rfl) (s_iteF (w_cmp (v_idx r3 rfl rfl) rfl rfl) (s_iteF (w_cmp (v_idx r3 rfl rfl) rfl rfl) (s_iteF (w_cmp (v_idx r3 rfl rfl) rfl rfl) (s_iteT (w_and (w_go (w_cmp (v_idx r3 rfl rfl) rfl rfl) (w_go (wq (w_cmp (v_idx r3 rfl rfl) (v_at r0 hb rfl) rfl) (beq_self_eq_true _)) rfl))) ?_))))
 refine s_expr (e_meth (x := w.b) (by assumption) hb rfl rfl (vs := [.bool false]) (by rfl) (c_set_modified C B λ H1 G1 => ?_))
 have hb1 := G1.buf.b
 have hrc1 := G1.buf.rc un
 have hu1 := G1.buf.u un
 refine s_iteT (w_cmp (v_at r0 hb1 (congrArg some (if_pos un))) rfl rfl) (s_expr (e_meth (x := w.u) (v_at (v_at r0 hb1 (congrArg some (if_pos un))) hrc1 rfl) hu1 rfl rfl (vs := [.int σ.sv,.int σ.tk]) (v_cons (v_idx r3 rfl rfl) (v_cons (v_at r0 hb1 rfl) rfl)) (c_ul_renew C G1.buf un hr λ H2 x G2 => s_back (s_back (s_back (s_back (s_back (s_back ?_))))))))
 exact s_ret (v := .int A.length) (by assumption) (h H2 x (G1.trans G2))
noncomputable def gT : ME := .and [(.cmp .gt (.var 2) (.int 0)),(.cmp .ne (.idx (.var 1) (.bin .sub (.var 2) (.int 1))) .bnd)]
noncomputable def gB : List MS := [.assign 2 (.call .undo_row [(.var 0),(.var 1),(.var 2)])]
structure GL (w : Wh) (L : Addr) (ρ : Locals) (k : Nat) : Prop where
 r0 : ρ 0 = some (.ref w.b)
 r1 : ρ 1 = some (.ref L)
 r2 : ρ 2 = some (.int k)
theorem g_test {ρ : Locals} {r : Row} (hL : H L = some (.list ((A ++ r :: D).map Row.av))) (hl : A.length + 1 < lim) (g : GL w L ρ (A.length + 1)) : evT H ρ gT = some (!r.isB) := by
 have hn := row_at (A := A) (r := r) (B := D) (by exact (ar (.i (.t (.a N0 K1) N1) (.t N0 N1)) 2 [_,_] []) hl)
 have e1 : ((A.length + 1 : Nat) : Int) - 1 = (A.length : Int) + 1 - 1 := by exact ar (.E (.s (.u (.a N0 K1)) K1) (.s (.a (.u N0) K1) K1)) 1 [_] []
 have h0 : (0 : Int) < ((A.length + 1 : Nat) : Int) := by exact ar (.T K0 (.u (.a N0 K1))) 1 [_] []
 have g0 := g.r0; have g1 := g.r1; have g2 := g.r2
 generalize (A ++ r :: D).map Row.av = L0 at *
 unfold gT
 simp only [evT_and,evA_cons,evT_cmp,ev_cmp,ev_var,ev_int,g1,g2,cmp_gt,Option.map_some,gt_iff_lt,h0,decide_true,ev_idx,ev_bin,opv_sub,idx_ref,hL,e1,hn,ev_bnd,row_ne,evA_nil,if_true]
 cases r.isB <;> rfl
theorem GL.upd {ρ : Locals} {k : Nat} (g : GL w L ρ k) (j : Nat) : GL w L (Mine.upd ρ 2 (.int j)) j := ⟨g.r0,g.r1,rfl⟩
theorem g_stop {ρ : Locals} {k : Nat} {Qs : SPost} (hL : H L = some (.list ((A ++ D).map Row.av))) (hl : A.length < lim) (hA : A = [] ∨ ∃ A',A = A' ++ [.bnd]) (g : GL w L ρ A.length) (h : Qs .next ρ H) : wh (call n) gT gB Qs k ρ H := by
 refine wh_stop ?_ h
 rcases hA with rfl | ⟨A',rfl⟩
 · have g2 := g.r2
   unfold gT
   simp [g2]
 · have hL' : H L = some (.list ((A' ++ .bnd :: D).map Row.av)) := by rw [hL]; simp
   have g' : GL w L ρ (A'.length + 1) := by have := g; rw [List.length_append] at this; exact this
   exact g_test hL' (by rw [List.length_append] at hl; exact hl) g'
noncomputable def umR : Option Int → List Row
 | some t => [.unm t]
 | none => []
noncomputable def pnR : Option Int → List Row
 | some p => [.pnt p]
 | none => []
noncomputable def Sg.unmd (σ : Sg) : Option Int → Addr → Sg
 | some _,x => { σ with sv := σ.tk,ul := x,rows := σ.rows.map (ren σ.sv σ.tk) }
 | none,_ => σ
noncomputable def Sg.pntd (σ : Sg) : Option Int → Sg
 | some p => { σ with pt := min (max p 1) σ.zv }
 | none => σ
theorem g_unm (C : Calls call) (B : Buf H w σ) (un : σ.un = true) {um : Option Int} {ρ : Locals} {k : Nat} {Qs : SPost} (hr : σ.rows.length ≤ lim) (nL : ¬ Ow w σ L) (hL : H L = some (.list ((A ++ umR um ++ D).map Row.av))) (hl : A.length + 2 < lim) (hA : A = [] ∨ ∃ A',A = A' ++ [.bnd])
   (hu : ∀ t,um = some t → t = σ.sv) (g : GL w L ρ (A ++ umR um).length) (h : ∀ H' x ρ',GL w L ρ' A.length → Go w σ H (σ.unmd um x) H' → Qs .next ρ' H') : wh (call (n + 2)) gT gB Qs (k + 1) ρ H := by
 cases um with
 | none =>
   have g' : GL w L ρ A.length := by simpa [umR] using g
   exact g_stop (D := D) (by simpa [umR] using hL) (by exact (ar (.i (.t (.a N0 K2) N1) (.t N0 N1)) 2 [_,_] []) hl) hA g' (h H 0 ρ g' (Go.refl B))
 | some t =>
   have e := hu t rfl
   subst e
   have hL' : H L = some (.list ((A ++ .unm σ.sv :: D).map Row.av)) := by rw [hL]; simp [umR]
   have g' : GL w L ρ (A.length + 1) := by simpa [umR] using g
   refine wh_step (g_test hL' (by exact (ar (.i (.t (.a N0 K2) N1) (.t (.a N0 K1) N1)) 2 [_,_] []) hl) g') (s_assignE (e_call (vs := [.ref w.b,.ref L,.int (A.length + 1 : Nat)]) (v_cons g'.r0 (v_cons g'.r1 (v_cons g'.r2 rfl))) (r_unm C B un hL' (by exact (ar (.i (.t (.a N0 K2) N1) (.t (.a N0 K1) N1)) 2 [_,_] []) hl) hr λ H' x G => ?_)))
   obtain ⟨hL2,_⟩ := G.ext L _ hL' nL
   exact wh_next (g_stop (D := .unm σ.sv :: D) hL2 (by exact (ar (.i (.t (.a N0 K2) N1) (.t N0 N1)) 2 [_,_] []) hl) hA (g'.upd A.length) (h H' x _ (g'.upd A.length) G))
theorem g_front (C : Calls call) (B : Buf H w σ) (un : σ.un = true) {um pn : Option Int} {ρ : Locals} {Qs : SPost} (hL : H L = some (.list ((A ++ umR um ++ pnR pn ++ D).map Row.av))) (nL : ¬ Ow w σ L) (hl : A.length + 2 < lim) (hA : A = [] ∨ ∃ A',A = A' ++ [.bnd])
   (g : GL w L ρ (A ++ umR um ++ pnR pn).length) (hu : ∀ t,um = some t → t = σ.sv) (hr : σ.rows.length ≤ lim)
   (h : ∀ H' x ρ',GL w L ρ' A.length → Go w σ H ((σ.pntd pn).unmd um x) H' → Qs .next ρ' H') : wh (call (n + 2)) gT gB Qs 3 ρ H := by
 cases pn with
 | none => exact g_unm (D := D) C B un hr nL (by rw [hL]; simp [pnR]) hl hA hu (by simpa [pnR] using g) h
 | some p =>
   have hL' : H L = some (.list (((A ++ umR um) ++ .pnt p :: D).map Row.av)) := by rw [hL]; simp [pnR]
   have hul : (A ++ umR um).length ≤ A.length + 1 := by cases um <;> simp [umR]
   have g' : GL w L ρ ((A ++ umR um).length + 1) := by
     have := g
     rw [List.length_append] at this
     exact this
   refine wh_step (g_test hL' (by exact (ar (.i (.l N0 (.a N1 K1)) (.i (.t (.a N1 K2) N2) (.t (.a N0 K1) N2))) 3 [_,_,_] []) hul hl) g') (s_assignE (e_call (vs := [.ref w.b,.ref L,.int ((A ++ umR um).length + 1 : Nat)]) (v_cons g'.r0 (v_cons g'.r1 (v_cons g'.r2 rfl))) (r_pnt C B hL' (by exact (ar (.i (.l N0 (.a N1 K1)) (.i (.t (.a N1 K2) N2) (.t (.a N0 K1) N2))) 3 [_,_,_] []) hul hl) λ H1 G1 => ?_)))
   obtain ⟨hL2,nL2⟩ := G1.ext L _ hL' nL
   exact wh_next (g_unm (D := .pnt p :: D) C G1.buf un hr nL2 hL2 hl hA hu (g'.upd _) λ H' x ρ' g2 G => h H' x ρ' g2 (G1.trans G))
theorem g_ins (C : Calls call) (B : Buf H w σ) (un : σ.un = true) (X : Ed σ t) {s e : Int} {ρ : Locals} {k : Nat} {Qs : SPost} (hL : H L = some (.list ((A ++ .ins s e :: D).map Row.av))) (nL : ¬ Ow w σ L) (hl : A.length + 1 < lim) (h1 : 1 ≤ s) (h2 : s < e) (h3 : e ≤ σ.zv) (hr : σ.rows.length + 20 < lim) (g : GL w L ρ (A.length + 1))
   (h : ∀ H' c a b pc ρ',GL w L ρ' A.length → H' L = some (.list ((A ++ .ins s e :: D).map Row.av)) → ¬ Ow w (({ σ with pt := s } : Sg).deld s e pc c a b) L → Ed (({ σ with pt := s } : Sg).deld s e pc c a b) (delT t s e) → PcF H w (({ σ with pt := s } : Sg).deld s e pc c a b) H' pc (midT t s e) → Go w σ H (({ σ with pt := s } : Sg).deld s e pc c a b) H' → wh (call (n + 7)) gT gB Qs k ρ' H') :
   wh (call (n + 7)) gT gB Qs (k + 1) ρ H := by
 refine wh_step (g_test hL hl g) (s_assignE (e_call (vs := [.ref w.b,.ref L,.int (A.length + 1 : Nat)]) (v_cons g.r0 (v_cons g.r1 (v_cons g.r2 rfl))) (r_ins C B un X hL hl h1 h2 h3 hr λ H' c a b pc X' Hp G => ?_)))
 obtain ⟨hL2,nL2⟩ := G.ext L _ hL nL
 exact wh_next (h H' c a b pc _ (g.upd A.length) hL2 nL2 X' Hp G)
theorem g_del (C : Calls call) (B : Buf H w σ) (un : σ.un = true) (X : Ed σ t) {s : Int} {pc : Addr} {q : Bool} {l : List Int} {W : List (Addr × Int)} {ρ : Locals} {k : Nat} {Qs : SPost} (hL : H L = some (.list ((A ++ mrkRows W ++ .del s pc q :: D).map Row.av))) (nL : ¬ Ow w σ L) (hl : A.length + W.length + 1 < lim)
   (hA : ∀ r,A.getLast? = some r → r.isM = false) (h1 : 1 ≤ s) (h2 : s ≤ σ.zv) (hp : PcN w σ H pc l) (h0 : l ≠ []) (hs : t.length + l.length ≤ 1000) (hW : W.length ≤ 10) (hV : ∀ p ∈ W,∃ r ∈ σ.ms,r.k = p.1 ∧ r.pos = s) (hr : σ.rows.length + 2 < lim ∧ lastIns (σ.st (decide (σ.sv < σ.tk)) σ.sv).rows = false)
   (g : GL w L ρ ((A ++ mrkRows W).length + 1))
   (h : ∀ H' c a e ρ',GL w L ρ' A.length → H' L = some (.list ((A ++ mrkRows W ++ .del s pc q :: D).map Row.av)) → ¬ Ow w (σ.und s l.length q W.reverse c a e) L → Ed (σ.und s l.length q W.reverse c a e) (insT t s l) → Go w σ H (σ.und s l.length q W.reverse c a e) H' → wh (call (n + 9)) gT gB Qs k ρ' H') :
   wh (call (n + 9)) gT gB Qs (k + 1) ρ H := by
 have hwl : (mrkRows W).length = W.length := by simp [mrkRows]
 refine wh_step (g_test hL (by rw [List.length_append,hwl]; exact (ar (.i (.t (.a (.a N0 N1) K1) N2) (.t (.a (.a N0 N1) K1) N2)) 3 [_,_,_] []) hl) g) (s_assignE (e_call (vs := [.ref w.b,.ref L,.int ((A ++ mrkRows W).length + 1 : Nat)]) (v_cons g.r0 (v_cons g.r1 (v_cons g.r2 rfl))) (r_del C B un X hL nL hl hA h1 h2 hp h0 hs hW hV hr λ H' c a e X' G => ?_)))
 obtain ⟨hL2,nL2⟩ := G.ext L _ hL nL
 exact wh_next (h H' c a e _ (g.upd A.length) hL2 nL2 X' G)
theorem group_in (C : Calls call) {N b : Nat} {R : List Row} (hL : H L = some (.list ((R ++ List.replicate b Row.bnd ++ D).map Row.av))) (hR : ∀ r,R.getLast? = some r → r.isB = false) (hl : R.length + b < lim)
   (h : ∀ ρ,GL w L ρ R.length → wh (call (n + 1)) gT gB (sq (call (n + 1)) [.ret (some (.var 2))] (postQ Q)) N ρ H) : call (n + 2) .undo_group [.ref w.b,.ref L,.int (R.length + b : Nat)] H Q := by
 refine enter C (as := [_,_,_]) (b := b_undo_group) rfl rfl rfl ?_
 refine s_assignE (e_call (vs := [.ref L,.int (R.length + b : Nat)]) (by rfl) (c_above C b hL hR hl ?_))
 exact s_while N (h _ ⟨rfl,rfl,rfl⟩)
end

end P_C18

section P_C19
open PySem

structure Vw where
 t : List Int
 ms : List Mk
noncomputable def nz (l : List (Addr × Int)) : List (Addr × Int) := l.filter λ p => decide (p.2 ≠ 0)
theorem nz_cons (p : Addr × Int) (l : List (Addr × Int)) : nz (p :: l) = if p.2 = 0 then nz l else p :: nz l := by
 unfold nz
 rw [List.filter_cons]
 by_cases h : p.2 = 0 <;> simp [h]
theorem mrks_nz : ∀ l : List (Addr × Int),mrks l = mrkRows (nz l)
 | [] => rfl
 | (k,d) :: r => by
   rw [nz_cons]
   have e : mrks ((k,d) :: r) = if d = 0 then mrks r else .mrk k d :: mrks r := rfl
   rw [e]
   by_cases h : d = 0
   · rw [if_pos h,if_pos h]; exact mrks_nz r
   · rw [if_neg h,if_neg h,mrks_nz r]; rfl
theorem nodup_rev {α : Type} {l : List α} (h : l.Nodup) : l.reverse.Nodup := by
 unfold List.Nodup at h ⊢
 rw [List.pairwise_reverse]
 exact h.imp λ x => x.symm
theorem uniq_k {ms : List Mk} (h : ms.Pairwise λ x y => x.k ≠ y.k) {r r' : Mk} (hr : r ∈ ms) (hr' : r' ∈ ms) (e : r'.k = r.k) : r' = r := by
 induction ms with
 | nil => cases hr
 | cons a ms ih =>
   rw [List.pairwise_cons] at h
   rcases List.mem_cons.mp hr with e1 | h1 <;> rcases List.mem_cons.mp hr' with e2 | h2
   · rw [e1,e2]
   · exact absurd (e1 ▸ e.symm) (h.1 r' h2)
   · exact absurd (e2 ▸ e) (h.1 r h1)
   · exact ih h.2 h1 h2
structure RDel (W : List (Addr × Int)) (s : Int) (l : List Int) (A B : Vw) : Prop where
 h1 : 1 ≤ s
 h0 : l ≠ []
 h2 : s + l.length ≤ A.t.length + 1
 hl : l = midT A.t s (s + l.length)
 t : B.t = delT A.t s (s + l.length)
 ms : B.ms = mapP (fDel s (s + l.length)) A.ms
 w : W = nz (frOf s (s + l.length) A.ms)
structure RIns (s e : Int) (A B : Vw) : Prop where
 h1 : 1 ≤ s
 h2 : s < e
 h3 : e ≤ B.t.length + 1
 t : A.t = delT B.t s e
 ms : A.ms = mapP (fDel s e) B.ms
section
variable {A B : Vw} {s e : Int} {l : List Int}
theorem midT_len {t : List Int} (h1 : 1 ≤ s) (h2 : s ≤ e) (h3 : e ≤ t.length + 1) : ((midT t s e).length : Int) = e - s := by
 unfold midT; rw [List.length_drop,List.length_take]; exact (ar (.i (.L K1 Z0) (.i (.L Z1 (.a (.u N0) K1)) (.i (.L Z0 Z1) (.E (.u (.s (.i (.t (.s Z1 K1)) N0) (.t (.s Z0 K1)))) (.s Z1 Z0))))) 2 [_] [_,_]) h1 h3 h2
theorem delT_len {t : List Int} (h1 : 1 ≤ s) (h2 : s ≤ e) (h3 : e ≤ t.length + 1) : ((delT t s e).length : Int) = t.length - (e - s) := by
 unfold delT; rw [List.length_append,List.length_take,List.length_drop]; exact (ar (.i (.L K1 Z0) (.i (.L Z1 (.a (.u N0) K1)) (.i (.L Z0 Z1) (.E (.u (.a (.i (.t (.s Z0 K1)) N0) (.s N0 (.t (.s Z1 K1))))) (.s (.u N0) (.s Z1 Z0)))))) 2 [_] [_,_]) h1 h3 h2
theorem insT_len {t l : List Int} (h1 : 1 ≤ s) (h2 : s ≤ t.length + 1) : ((insT t s l).length : Int) = t.length + l.length := by
 unfold insT; rw [List.length_append,List.length_append,List.length_take,List.length_drop]; exact ar (.E (.u (.a (.a (.i (.t (.s Z0 K1)) N0) N1) (.s N0 (.t (.s Z0 K1))))) (.a (.u N0) (.u N1))) 2 [_,_] [_]
theorem ins_del {t : List Int} (h1 : 1 ≤ s) (h2 : s ≤ e) (h3 : e ≤ t.length + 1) : insT (delT t s e) s (midT t s e) = t := by
 unfold insT delT midT
 have h : (t.take (s - 1).toNat).length = (s - 1).toNat := by rw [List.length_take]; exact (ar (.i (.L Z0 (.a (.u N0) K1)) (.i (.L Z1 Z0) (.e (.i (.t (.s Z1 K1)) N0) (.t (.s Z1 K1))))) 2 [_] [_,_]) h3 h2
 have e1 : (t.take (s - 1).toNat ++ t.drop (e - 1).toNat).take (s - 1).toNat = t.take (s - 1).toNat := by
   conv => lhs; rw [← h]
   rw [h]
   rw [List.take_append_of_le_length (by exact (ar (.i (.e N0 (.t (.s Z0 K1))) (.l (.t (.s Z0 K1)) N0)) 1 [_] [_]) h),List.take_of_length_le (by exact (ar (.i (.e N0 (.t (.s Z0 K1))) (.l N0 (.t (.s Z0 K1)))) 1 [_] [_]) h)]
 have e2 : (t.take (s - 1).toNat ++ t.drop (e - 1).toNat).drop (s - 1).toNat = t.drop (e - 1).toNat := by
   rw [List.drop_append_of_le_length (by exact (ar (.i (.e N0 (.t (.s Z0 K1))) (.l (.t (.s Z0 K1)) N0)) 1 [_] [_]) h),List.drop_of_length_le (by exact (ar (.i (.e N0 (.t (.s Z0 K1))) (.l N0 (.t (.s Z0 K1)))) 1 [_] [_]) h),List.nil_append]
 rw [e1,e2]
 have e3 : t.take (s - 1).toNat ++ (t.take (e - 1).toNat).drop (s - 1).toNat = t.take (e - 1).toNat := by
   conv => rhs; rw [← List.take_append_drop (s - 1).toNat (t.take (e - 1).toNat)]
   rw [List.take_take,Nat.min_eq_left (by exact (ar (.i (.L Z0 Z1) (.l (.t (.s Z0 K1)) (.t (.s Z1 K1)))) 2 [] [_,_]) h2)]
 rw [e3,List.take_append_drop]
theorem del_ins {t l : List Int} (h1 : 1 ≤ s) (h2 : s ≤ t.length + 1) : delT (insT t s l) s (s + l.length) = t := by
 unfold insT delT
 have h : (t.take (s - 1).toNat).length = (s - 1).toNat := by rw [List.length_take]; exact (ar (.i (.L Z0 (.a (.u N0) K1)) (.e (.i (.t (.s Z0 K1)) N0) (.t (.s Z0 K1)))) 1 [_] [_]) h2
 have e1 : (s + (l.length : Int) - 1).toNat = (t.take (s - 1).toNat ++ l).length := by rw [List.length_append,h]; exact (ar (.i (.L K1 Z0) (.e (.t (.s (.a Z0 (.u N0)) K1)) (.a (.t (.s Z0 K1)) N0))) 1 [_] [_]) h1
 rw [e1,List.drop_left,List.append_assoc,List.take_append_of_le_length (by exact (ar (.i (.e N0 (.t (.s Z0 K1))) (.l (.t (.s Z0 K1)) N0)) 1 [_] [_]) h),List.take_of_length_le (by exact (ar (.i (.e N0 (.t (.s Z0 K1))) (.l N0 (.t (.s Z0 K1)))) 1 [_] [_]) h),List.take_append_drop]
theorem subs_map : ∀ (V : List (Addr × Int)) (l : List Mk),(V.map (·.1)).Nodup → subs V l = l.map λ r => { r with pos := r.pos - (V.lookup r.k).getD 0 }
 | [],l,_ => by
   refine (?_ : l = _)
   conv => lhs; rw [← List.map_id l]
   exact List.map_congr_left λ r _ => by simp
 | (k,d) :: V,l,h => by
   have hn := List.nodup_cons.mp h
   refine (?_ : subs V (l.map (sub1 k d)) = _)
   rw [subs_map V _ hn.2,List.map_map]
   refine List.map_congr_left λ r _ => ?_
   refine (?_ : ({ sub1 k d r with pos := (sub1 k d r).pos - (V.lookup (sub1 k d r).k).getD 0 } : Mk) = _)
   rw [List.lookup_cons]
   unfold sub1
   by_cases e : r.k = k
   · have : V.lookup k = none := by
       cases q : V.lookup k with
       | none => rfl
       | some x =>
         refine absurd ?_ hn.1
         clear h hn
         induction V with
         | nil => simp at q
         | cons a V ih =>
           rw [List.lookup_cons] at q
           by_cases z : k = a.1
           · rw [List.map_cons,z]; exact .head _
           · have zb : (k == a.1) = false := by simpa using z
             rw [zb] at q
             exact .tail _ (ih q)
     simp [e,this]
   · have eb : (r.k == k) = false := by simpa using e
     simp [e,eb]
theorem nz_keys {ms : List Mk} (h : ms.Pairwise λ x y => x.k ≠ y.k) : ((nz (frOf s e ms)).map (·.1)).Nodup := by
 unfold nz frOf
 have : (((ms.filter (inside s e)).map λ r => (r.k,dist s e r)).map (·.1)) = (ms.filter (inside s e)).map (·.k) := by rw [List.map_map]; rfl
 refine List.Nodup.sublist (List.Sublist.map _ (List.filter_sublist)) ?_
 rw [this]
 refine List.Nodup.sublist (List.Sublist.map _ (List.filter_sublist)) ?_
 unfold List.Nodup
 rw [List.pairwise_map]
 exact h
theorem nz_at {ms : List Mk} (h : ms.Pairwise λ x y => x.k ≠ y.k) {r : Mk} (hr : r ∈ ms) : ((nz (frOf s e ms)).reverse.lookup r.k).getD 0 = if inside s e r = true then dist s e r else 0 := by
 have nk := nz_keys (s := s) (e := e) h
 have nk' : ((nz (frOf s e ms)).reverse.map (·.1)).Nodup := by rw [List.map_reverse]; exact nodup_rev nk
 have look : ∀ {V : List (Addr × Int)} {k : Addr} {d : Int},(V.map (·.1)).Nodup → (k,d) ∈ V → V.lookup k = some d := by
   intro V k d hn hm
   induction V with
   | nil => cases hm
   | cons a V ih =>
     rw [List.lookup_cons]
     have hn' := List.nodup_cons.mp hn
     rcases List.mem_cons.mp hm with e | hm
     · rw [← e]; simp
     · have : k ≠ a.1 := λ z => hn'.1 (by show a.1 ∈ _; rw [← z]; exact List.mem_map_of_mem (f := Prod.fst) hm)
       have zb : (k == a.1) = false := by simpa using this
       rw [zb]; exact ih hn'.2 hm
 have back : ∀ {V : List (Addr × Int)} {k : Addr} {d : Int},V.lookup k = some d → (k,d) ∈ V := by
   intro V k d hm
   induction V with
   | nil => exact nn hm
   | cons a V ih =>
     rw [List.lookup_cons] at hm
     by_cases z : k = a.1
     · simp [z] at hm
       obtain ⟨x,y⟩ := a
       simp at z hm; subst z hm; exact .head _
     · have zb : (k == a.1) = false := by simpa using z
       rw [zb] at hm; exact .tail _ (ih hm)
 have one : ∀ {d},(r.k,d) ∈ nz (frOf s e ms) → inside s e r = true ∧ d = dist s e r := by
   intro d hm
   obtain ⟨hm,_⟩ := List.mem_filter.mp hm
   obtain ⟨r',hr',e'⟩ := List.mem_map.mp hm
   obtain ⟨hr',hi⟩ := List.mem_filter.mp hr'
   have ek : r'.k = r.k := congrArg Prod.fst e'
   have : r' = r := uniq_k h hr hr' ek
   subst this
   exact ⟨hi,(congrArg Prod.snd e').symm⟩
 by_cases hi : inside s e r = true
 · rw [if_pos hi]
   by_cases hd : dist s e r = 0
   · cases q : (nz (frOf s e ms)).reverse.lookup r.k with
     | none => rw [hd]; rfl
     | some d =>
       have := (one (List.mem_reverse.mp (back q))).2
       rw [this]; rfl
   · have hm : (r.k,dist s e r) ∈ nz (frOf s e ms) := List.mem_filter.mpr ⟨List.mem_map.mpr ⟨r,List.mem_filter.mpr ⟨hr,hi⟩,rfl⟩,by simpa using hd⟩
     rw [look nk' (List.mem_reverse.mpr hm)]; rfl
 · rw [if_neg hi]
   cases q : (nz (frOf s e ms)).reverse.lookup r.k with
   | none => rfl
   | some d => exact absurd (one (List.mem_reverse.mp (back q))).1 hi
theorem marks_back {ms : List Mk} (h : ms.Pairwise λ x y => x.k ≠ y.k) (h2 : s < e) : subs (nz (frOf s e ms)).reverse (mapP (fIns s e false) (mapP (fDel s e) ms)) = ms := by
 rw [subs_map _ _ (by rw [List.map_reverse]; exact nodup_rev (nz_keys h))]
 unfold mapP
 rw [List.map_map,List.map_map]
 conv => rhs; rw [← List.map_id ms]
 refine List.map_congr_left λ r hr => ?_
 refine (?_ : ({ r with pos := fIns s e false { r with pos := fDel s e r } - ((nz (frOf s e ms)).reverse.lookup r.k).getD 0 } : Mk) = r)
 rw [nz_at h hr]
 have : fIns s e false { r with pos := fDel s e r } - (if inside s e r = true then dist s e r else 0) = r.pos := by
   unfold fIns fDel dist inside
   simp only [Bool.and_eq_true,decide_eq_true_eq,Bool.false_eq_true,false_or]
   cases r.adv <;> simp only [Bool.false_eq_true,and_false,or_false,and_true,if_true,if_false] <;> repeat' split
   all_goals (first | exact (False.elim ((ar (.i (.a (.L Z0 Z1) (.L Z1 Z2)) (.i (.T Z2 Z1) .f)) 3 [] [_,_,_]) (by assumption) (by assumption))) | exact ar (.E (.s (.s (.a (.s Z0 (.s Z1 Z2)) Z1) Z2) K0) Z0) 3 [] [_,_,_] | exact (False.elim ((ar (.i (.T Z1 Z0) (.i (.i (.T Z2 (.s Z0 (.s Z1 Z2))) .f) .f)) 3 [] [_,_,_]) (by assumption) (by assumption))) | exact (False.elim ((ar (.i (.T Z0 Z0) .f) 1 [] [_]) (by assumption))) | exact (False.elim ((ar (.i (.T Z1 Z0) (.i (.i (.T Z2 Z0) .f) (.i (.o (.T Z0 Z1) (.T Z2 Z0)) .f))) 3 [] [_,_,_]) (by assumption) (by assumption) (by assumption))) | exact ar (.E (.s Z0 (.s Z0 Z1)) Z1) 2 [] [_,_] | exact (False.elim ((ar (.i (.T Z1 Z0) (.i (.i (.a (.L Z1 Z0) (.L Z0 Z2)) .f) (.i (.i (.T Z2 Z0) .f) .f))) 3 [] [_,_,_]) (by assumption) (by assumption) (by assumption))) | exact ar (.E (.s Z0 K0) Z0) 1 [] [_] | exact (ar (.i (.a (.L Z0 Z1) (.L Z1 Z2)) (.i (.i (.T Z0 Z1) .f) (.E (.s Z1 (.s Z0 Z1)) Z1))) 3 [] [_,_,_]) (by assumption) (by assumption) | exact (False.elim ((ar (.i (.T Z1 Z0) (.i (.i (.o (.T Z2 (.s Z0 (.s Z1 Z2))) (.E (.s Z0 (.s Z1 Z2)) Z2)) .f) .f)) 3 [] [_,_,_]) (by assumption) (by assumption))) | exact ar (.E (.s (.s (.a Z0 Z1) Z0) (.s Z1 Z2)) Z2) 3 [] [_,_,_] | exact (False.elim ((ar (.i (.i (.o (.T Z0 Z0) (.E Z0 Z0)) .f) .f) 1 [] [_]) (by assumption))) | exact (False.elim ((ar (.i (.a (.L Z0 Z1) (.L Z1 Z2)) (.i (.o (.T Z1 Z0) (.T Z2 Z1)) .f)) 3 [] [_,_,_]) (by assumption) (by assumption))) | exact (ar (.i (.a (.L Z0 Z1) (.L Z1 Z2)) (.i (.i (.T Z0 Z1) .f) (.E (.s (.s (.a Z1 Z2) Z0) (.s Z2 Z1)) Z1))) 3 [] [_,_,_]) (by assumption) (by assumption) | exact (False.elim ((ar (.i (.i (.a (.L Z0 Z1) (.L Z1 Z2)) .f) (.i (.i (.T Z2 Z1) .f) (.i (.o (.T Z0 Z1) (.E Z1 Z0)) .f))) 3 [] [_,_,_]) (by assumption) (by assumption) (by assumption))) | exact (False.elim ((ar (.i (.a (.L Z0 Z1) (.L Z1 Z2)) (.i (.i (.o (.T Z0 Z1) (.E Z1 Z0)) .f) .f)) 3 [] [_,_,_]) (by assumption) (by assumption))))
 rw [this]
theorem und_del {W : List (Addr × Int)} (R : RDel W s l A B) (hk : A.ms.Pairwise λ x y => x.k ≠ y.k) : insT B.t s l = A.t ∧ subs W.reverse (mapP (fIns s (s + l.length) false) B.ms) = A.ms ∧ RIns s (s + l.length) B A ∧ (∀ p ∈ W,∃ r ∈ B.ms,r.k = p.1 ∧ r.pos = s) := by
 have hpos : 0 < (l.length : Int) := by
   have : l.length ≠ 0 := λ z => R.h0 (List.eq_nil_of_length_eq_zero z)
   exact (ar (.i (.i (.e N0 K0) .f) (.T K0 (.u N0))) 1 [_] []) this
 refine ⟨?_, ?_,⟨R.h1,by exact (ar (.i (.T K0 (.u N0)) (.T Z0 (.a Z0 (.u N0)))) 1 [_] [_]) hpos,R.h2,R.t,R.ms⟩,λ p hp => ?_⟩
 · have := ins_del R.h1 (by exact ar (.L Z0 (.a Z0 (.u N0))) 1 [_] [_]) R.h2
   rw [← R.hl] at this
   rw [R.t]; exact this
 · rw [R.w,R.ms]; exact marks_back hk (by exact (ar (.i (.T K0 (.u N0)) (.T Z0 (.a Z0 (.u N0)))) 1 [_] [_]) hpos)
 · rw [R.w] at hp
   obtain ⟨hp,_⟩ := List.mem_filter.mp hp
   obtain ⟨r,hr,e⟩ := List.mem_map.mp hp
   obtain ⟨hr,hi⟩ := List.mem_filter.mp hr
   refine ⟨{ r with pos := fDel s (s + l.length) r }, ?_,by rw [← e], ?_⟩
   · rw [R.ms]; exact List.mem_map_of_mem hr
   · unfold inside at hi
     rw [Bool.and_eq_true,decide_eq_true_eq,decide_eq_true_eq] at hi
     refine (?_ : fDel s (s + l.length) r = s)
     unfold fDel
     repeat' split
     all_goals (first | exact (False.elim ((ar (.i (.a (.L Z0 Z1) (.L Z1 (.a Z0 (.u N0)))) (.i (.T (.a Z0 (.u N0)) Z1) .f)) 2 [_] [_,_]) hi (by assumption))) | exact ar (.E Z0 Z0) 1 [] [_] | exact (ar (.i (.a (.L Z0 Z1) (.L Z1 (.a Z0 (.u N0)))) (.i (.i (.T Z0 Z1) .f) (.E Z1 Z0))) 2 [_] [_,_]) hi (by assumption))
theorem und_ins (R : RIns s e A B) : RDel (nz (frOf s e B.ms)) s (midT B.t s e) B A := by
 have hl := midT_len (t := B.t) R.h1 (Int.le_of_lt R.h2) R.h3
 have e1 : s + ((midT B.t s e).length : Int) = e := by exact (ar (.i (.E (.u N0) (.s Z0 Z1)) (.E (.a Z1 (.u N0)) Z0)) 2 [_] [_,_]) hl
 have h2 := R.h2
 refine ⟨R.h1,λ z => ?_,by rw [e1]; exact R.h3,by rw [e1],by rw [e1]; exact R.t,by rw [e1]; exact R.ms,by rw [e1]⟩
 rw [z] at hl; simp at hl; exact (ar (.i (.E K0 (.s Z0 Z1)) (.i (.T Z1 Z0) .f)) 2 [] [_,_]) hl h2
theorem did_ins {t : List Int} {ms : List Mk} (h1 : 1 ≤ s) (h2 : s ≤ t.length + 1) (h0 : l ≠ []) : RIns s (s + l.length) ⟨t,ms⟩ ⟨insT t s l,mapP (fIns s (s + l.length) false) ms⟩ := by
 have hpos : 0 < (l.length : Int) := by
   have : l.length ≠ 0 := λ z => h0 (List.eq_nil_of_length_eq_zero z)
   exact (ar (.i (.i (.e N0 K0) .f) (.T K0 (.u N0))) 1 [_] []) this
 have hl := insT_len (t := t) (l := l) h1 h2
 refine ⟨h1,by exact (ar (.i (.T K0 (.u N0)) (.T Z0 (.a Z0 (.u N0)))) 1 [_] [_]) hpos,by refine (?_ : s + (l.length : Int) ≤ (insT t s l).length + 1); exact (ar (.i (.E (.u N0) (.a (.u N1) (.u N2))) (.i (.L Z0 (.a (.u N1) K1)) (.L (.a Z0 (.u N2)) (.a (.u N0) K1)))) 3 [_,_,_] [_]) hl h2,(del_ins h1 h2).symm, ?_⟩
 refine (?_ : ms = mapP _ (mapP _ ms))
 unfold mapP
 rw [List.map_map]
 conv => lhs; rw [← List.map_id ms]
 refine List.map_congr_left λ r _ => ?_
 refine (?_ : r = { r with pos := fDel s (s + l.length) { r with pos := fIns s (s + l.length) false r } })
 have : fDel s (s + l.length) { r with pos := fIns s (s + l.length) false r } = r.pos := by
   unfold fDel fIns
   simp only [Bool.false_eq_true,false_or]
   cases r.adv <;> simp only [Bool.false_eq_true,and_false,or_false,and_true] <;> repeat' split
   all_goals (first | exact (ar (.E (.s (.s (.a (.z 0) (.a (.z 1) (.u (.n 0)))) (.z 1)) (.s (.a (.z 1) (.u (.n 0))) (.z 1))) (.z 0)) 2 [_] [_,_]) | exact (False.elim ((ar (.i (.T (.z 1) (.z 0)) (.i (.i (.T (.a (.z 1) (.u (.n 0))) (.s (.a (.z 0) (.a (.z 1) (.u (.n 0)))) (.z 1))) .f) .f)) 2 [_] [_,_]) (by assumption) (by assumption))) | exact (False.elim ((ar (.i (.T (.a (.z 1) (.u (.n 0))) (.z 0)) (.i (.i (.T (.z 1) (.z 0)) .f) .f)) 2 [_] [_,_]) (by assumption) (by assumption))) | exact (ar (.E (.z 0) (.z 0)) 1 [] [_]) | exact (ar (.i (.i (.T (.a (.z 1) (.u (.n 0))) (.s (.a (.z 0) (.a (.z 1) (.u (.n 0)))) (.z 1))) .f) (.i (.o (.T (.z 1) (.z 0)) (.E (.z 0) (.z 1))) (.E (.z 1) (.z 0)))) 2 [_] [_,_]) (by assumption) (by assumption) | exact (False.elim ((ar (.i (.T (.k 0) (.u (.n 0))) (.i (.i (.T (.z 1) (.s (.a (.z 0) (.a (.z 1) (.u (.n 0)))) (.z 1))) .f) (.i (.o (.T (.z 1) (.z 0)) (.E (.z 0) (.z 1))) .f))) 2 [_] [_,_]) hpos (by assumption) (by assumption))) | exact (False.elim ((ar (.i (.T (.a (.z 1) (.u (.n 0))) (.z 0)) (.i (.i (.o (.T (.z 1) (.z 0)) (.E (.z 0) (.z 1))) .f) .f)) 2 [_] [_,_]) (by assumption) (by assumption))) | exact (False.elim ((ar (.i (.T (.z 1) (.z 0)) (.i (.i (.o (.T (.z 1) (.z 0)) (.E (.z 0) (.z 1))) .f) .f)) 2 [] [_,_]) (by assumption) (by assumption))) | omega)
 rw [this]
theorem did_del {t : List Int} {ms : List Mk} (h1 : 1 ≤ s) (h2 : s < e) (h3 : e ≤ t.length + 1) : RDel (nz (frOf s e ms)) s (midT t s e) ⟨t,ms⟩ ⟨delT t s e,mapP (fDel s e) ms⟩ :=
 und_ins (A := ⟨delT t s e,mapP (fDel s e) ms⟩) (B := ⟨t,ms⟩) ⟨h1,h2,h3,rfl,rfl⟩
theorem did_rep {t : List Int} {ms : List Mk} (h1 : 1 ≤ s) (h2 : s < e) (h3 : e ≤ t.length + 1) (h0 : l ≠ []) : RIns s (s + l.length) ⟨delT t s e,mapP (fDel s e) ms⟩ ⟨insT (delT t s e) s l,mapP (fRep s e l.length) ms⟩ := by
 have hpos : 0 < (l.length : Int) := by
   have : l.length ≠ 0 := λ z => h0 (List.eq_nil_of_length_eq_zero z)
   exact (ar (.i (.i (.e N0 K0) .f) (.T K0 (.u N0))) 1 [_] []) this
 have hd := delT_len (t := t) h1 (Int.le_of_lt h2) h3
 have hl := insT_len (t := delT t s e) (l := l) h1 (by exact (ar (.i (.E (.u N0) (.s (.u N1) (.s Z0 Z1))) (.i (.L Z0 (.a (.u N1) K1)) (.L Z1 (.a (.u N0) K1)))) 2 [_,_] [_,_]) hd h3)
 refine ⟨h1,by exact (ar (.i (.T K0 (.u N0)) (.T Z0 (.a Z0 (.u N0)))) 1 [_] [_]) hpos,by refine (?_ : s + (l.length : Int) ≤ (insT (delT t s e) s l).length + 1); exact (ar (.i (.E (.u N0) (.a (.u N1) (.u N2))) (.i (.E (.u N1) (.s (.u N3) (.s Z0 Z1))) (.i (.L Z0 (.a (.u N3) K1)) (.L (.a Z1 (.u N2)) (.a (.u N0) K1))))) 4 [_,_,_,_] [_,_]) hl hd h3,(del_ins (t := delT t s e) h1 (by exact (ar (.i (.E (.u N0) (.s (.u N1) (.s Z0 Z1))) (.i (.L Z0 (.a (.u N1) K1)) (.L Z1 (.a (.u N0) K1)))) 2 [_,_] [_,_]) hd h3)).symm, ?_⟩
 refine (?_ : mapP _ ms = mapP _ (mapP _ ms))
 unfold mapP
 rw [List.map_map]
 refine List.map_congr_left λ r _ => ?_
 refine (?_ : ({ r with pos := fDel s e r } : Mk) = { r with pos := fDel s (s + l.length) { r with pos := fRep s e l.length r } })
 have : fDel s (s + l.length) { r with pos := fRep s e l.length r } = fDel s e r := by
   unfold fDel fRep
   dsimp only
   repeat' split
   all_goals (first | exact (ar (.E (.s (.s (.a (.z 0) (.u (.n 0))) (.s (.z 1) (.z 2))) (.s (.a (.z 2) (.u (.n 0))) (.z 2))) (.s (.z 0) (.s (.z 1) (.z 2)))) 3 [_] [_,_,_]) | exact (False.elim ((ar (.i (.T (.a (.z 2) (.u (.n 0))) (.s (.a (.z 0) (.u (.n 0))) (.s (.z 1) (.z 2)))) (.i (.i (.T (.z 1) (.z 0)) .f) .f)) 3 [_] [_,_,_]) (by assumption) (by assumption))) | exact (False.elim ((ar (.i (.T (.z 1) (.z 0)) (.i (.i (.T (.a (.z 2) (.u (.n 0))) (.s (.a (.z 0) (.u (.n 0))) (.s (.z 1) (.z 2)))) .f) .f)) 3 [_] [_,_,_]) (by assumption) (by assumption))) | exact (ar (.E (.z 0) (.z 0)) 1 [] [_]) | exact (False.elim ((ar (.i (.L (.z 1) (.z 0)) (.i (.T (.z 2) (.z 1)) (.i (.i (.T (.z 2) (.z 0)) .f) .f))) 3 [] [_,_,_]) (by assumption) h2 (by assumption))) | exact (False.elim ((ar (.i (.T (.a (.z 0) (.u (.n 0))) (.z 0)) .f) 1 [_] [_]) (by assumption))) | exact (False.elim ((ar (.i (.T (.z 0) (.z 0)) .f) 1 [] [_]) (by assumption))) | exact (False.elim ((ar (.i (.T (.z 1) (.z 0)) (.i (.i (.L (.z 1) (.z 0)) .f) .f)) 2 [] [_,_]) (by assumption) (by assumption))) | exact (False.elim ((ar (.i (.T (.a (.z 1) (.u (.n 0))) (.z 0)) (.i (.i (.T (.z 1) (.z 0)) .f) .f)) 2 [_] [_,_]) (by assumption) (by assumption))) | omega)
 rw [this]
end

end P_C19

section P_C20
open PySem

structure Gd where
 um : Option Int
 pn : Option Int
 W : List (Addr × Int)
 s : Int
 pc : Addr
 l : List Int
 q : Bool
set_option genInjectivity true in
inductive Gr where
 | ins (um : Option Int) (s e : Int)
 | del (d : Gd)
 | rep (d : Gd) (e : Int)
noncomputable def Gr.ctorIdx (x : Gr) : Nat := @Gr.casesOn (λ _ => Nat) x (λ _ _ _ => 0) (λ _ => 1) (λ _ _ => 2)
noncomputable def Gd.rows (d : Gd) : List Row := umR d.um ++ pnR d.pn ++ mrkRows d.W ++ [.del d.s d.pc d.q]
noncomputable def Gr.rows : Gr → List Row
 | .ins um s e => umR um ++ [.ins s e]
 | .del d => d.rows
 | .rep d e => d.rows ++ [.ins d.s e]
noncomputable def Gr.um : Gr → Option Int
 | .ins um _ _ => um
 | .del d => d.um
 | .rep d _ => d.um
noncomputable def Gr.rel : Gr → Vw → Vw → Prop
 | .ins _ s e,A,B => RIns s e A B
 | .del d,A,B => RDel d.W d.s d.l A B
 | .rep d e,A,B => ∃ M,RDel d.W d.s d.l A M ∧ RIns d.s e M B
noncomputable def Gr.pc : Gr → Option (Addr × List Int)
 | .ins _ _ _ => none
 | .del d => some (d.pc,d.l)
 | .rep d _ => some (d.pc,d.l)
noncomputable def Gd.back (d : Gd) (z : Int) : Int := match d.pn with
 | some p => min (max p 1) z
 | none => if d.q = true then d.s + d.l.length else d.s
noncomputable def Gr.back : Gr → Int → Int
 | .ins _ s _,_ => s
 | .del d,z => d.back z
 | .rep d _,z => d.back z
noncomputable def umOf (σ : Sg) : Option Int := if decide (σ.sv < σ.tk) = false ∧ σ.nt ≠ some σ.sv then some σ.sv else none
noncomputable def pnOf (first : Bool) (pb : Option Int) (s : Int) : Option Int := match first,pb with
 | true,some p => if p = s then none else some p
 | _,_ => none
section
variable {call : Nat → Fn → List AV → AHeap → (AV → AHeap → Prop) → Prop} {n : Nat} {H H' : AHeap} {w : Wh} {σ σ' : Sg} {Q : AV → AHeap → Prop} {t : List Int} {A D : List Row} {L : Addr}
theorem st_rows : (σ.st (decide (σ.sv < σ.tk)) σ.sv).rows = σ.rows ++ umR (umOf σ) := by
 unfold Sg.st umOf
 split <;> simp [umR]
theorem pnt_rows (f : Bool) (pb : Option Int) (s : Int) : pntRow f pb s = pnR (pnOf f pb s) := by
 cases f with
 | false => rfl
 | true =>
   cases pb with
   | none => rfl
   | some p =>
     refine (?_ : (if p = s then [] else [Row.pnt p]) = pnR (if p = s then none else some p))
     split <;> rfl
theorem nDel_rows (s e : Int) (pc : Addr) : (σ.nDel s e pc).rows = σ.rows ++ (umR (umOf σ) ++ pnR (pnOf (atB σ.rows) σ.pb s) ++ mrkRows (nz (frOf s e σ.ms)) ++ [.del s pc (decide (σ.pt = e))]) := by
 unfold Sg.nDel
 refine (?_ : (σ.st (decide (σ.sv < σ.tk)) σ.sv).rows ++ pntRow (atB σ.rows) σ.pb s ++ mrks (frOf s e σ.ms) ++ [.del s pc (decide (σ.pt = e))] = _)
 rw [st_rows,pnt_rows,mrks_nz]
 simp only [List.append_assoc]
theorem nIns_rows (un : σ.un = true) (p k : Int) : (σ.nIns p k).rows = σ.rows ++ (umR (umOf σ) ++ [.ins p (p + k)]) := by
 unfold Sg.nIns
 rw [if_pos un]
 refine (?_ : (σ.st (decide (σ.sv < σ.tk)) σ.sv).rows ++ _ = _)
 rw [st_rows]
 simp only [List.append_assoc]
structure Kp (σ σ' : Sg) : Prop where
 un : σ'.un = σ.un
 pb : σ'.pb = σ.pb
 tk : σ.tk < σ'.tk
structure Cd (w : Wh) (H : AHeap) (σ : Sg) (t : List Int) (g : Gr) (σ' : Sg) (t' : List Int) (H' : AHeap) : Prop where
 go : Go w σ H σ' H'
 ed : Ed σ' t'
 rel : g.rel ⟨t,σ.ms⟩ ⟨t',σ'.ms⟩
 rows : σ'.rows = σ.rows ++ g.rows
 pc : ∀ p,g.pc = some p → PcF H w σ' H' p.1 p.2
 um : g.um = umOf σ
 kp : Kp σ σ'
 sv : σ'.sv = σ.sv
theorem last_st (h : atB σ.rows = true) : lastIns (σ.st (decide (σ.sv < σ.tk)) σ.sv).rows = false := by
 rw [st_rows]
 unfold lastIns
 rw [List.getLast?_append]
 cases umOf σ with
 | some x => rfl
 | none =>
   refine (?_ : (match (none : Option Row).or σ.rows.getLast? with | some (.ins _ _) => true | _ => false) = false)
   rw [Option.none_or]
   unfold atB at h
   cases q : σ.rows.getLast? with
   | none => rfl
   | some r => rw [q] at h; cases r <;> first | rfl | exact ft h
theorem insd_rows (un : σ.un = true) (k : Int) (c : List AV) (a e : Int) : (σ.insd k c a e).rows = σ.rows ++ (umR (umOf σ) ++ [.ins σ.pt (σ.pt + k)]) := nIns_rows un σ.pt k
theorem insd_kp (k : Int) (c : List AV) (a e : Int) : Kp σ (σ.insd k c a e) ∧ (σ.insd k c a e).sv = σ.sv := by
 have h := nIns_eq (σ := σ) σ.pt k
 exact ⟨⟨h.2.2.2.2.2.2.2.2.2.2.2,h.2.2.2.2.2.2.2.2.2.2.1,by refine (?_ : σ.tk < σ.tk + 1); exact ar (.T Z0 (.a Z0 K1)) 1 [] [_]⟩,h.2.2.2.2.2.2.2.1⟩
theorem deld_kp (s e : Int) (pc : Addr) (c : List AV) (a b : Int) : Kp σ (σ.deld s e pc c a b) ∧ (σ.deld s e pc c a b).sv = σ.sv := by
 have h := nDel_eq (σ := σ) s e pc
 exact ⟨⟨h.2.2.2.2.2.2.2.2.2.2.2,h.2.2.2.2.2.2.2.2.2.2.1,by refine (?_ : σ.tk < σ.tk + 1); exact ar (.T Z0 (.a Z0 K1)) 1 [] [_]⟩,h.2.2.2.2.2.2.2.1⟩
theorem repd_kp (s e : Int) (pc : Addr) (k : Int) (c : List AV) (a b : Int) : Kp σ (σ.repd s e pc k c a b) ∧ (σ.repd s e pc k c a b).sv = σ.sv := by
 have h := nDel_eq (σ := σ) s e pc
 exact ⟨⟨h.2.2.2.2.2.2.2.2.2.2.2,h.2.2.2.2.2.2.2.2.2.2.1,by refine (?_ : σ.tk < σ.tk + 1); exact ar (.T Z0 (.a Z0 K1)) 1 [] [_]⟩,h.2.2.2.2.2.2.2.1⟩
theorem cd_insert (C : Calls call) (B : Buf H w σ) (un : σ.un = true) (X : Ed σ t) (ha : atB σ.rows = true) {cs : Addr} {l : List Int} (hl : H cs = some (.list (il l))) (hn : ¬ Ow w σ cs) (h0 : l ≠ []) (hs : t.length + l.length ≤ 1000) (hr : σ.rows.length + 20 < lim)
   (h : ∀ H' σ' t',Cd w H σ t (.ins (umOf σ) σ.pt (σ.pt + l.length)) σ' t' H' → t'.length = t.length + l.length → Q .none H') : call (n + 6) .insert [.ref w.b,.ref cs] H Q := by
 have p1 := X.p1; have p2 := X.p2; have hz := X.zv
 refine c_insert C B X hl hn h0 hs (λ _ => ⟨by exact (ar (.i (.t (.a N0 (.k 20)) N1) (.t (.a N0 K2) N1)) 2 [_,_] []) hr,last_st ha⟩) λ H' c a e X' G => h H' _ _ ⟨G,X', ?_,insd_rows un _ c a e,(λ p z => by exact nn z),rfl,(insd_kp _ c a e).1,(insd_kp _ c a e).2⟩ ?_
 · exact did_ins p1 (by exact (ar (.i (.E Z0 (.a (.u N0) K1)) (.i (.L Z1 Z0) (.L Z1 (.a (.u N0) K1)))) 2 [_] [_,_]) hz p2) h0
 · have := insT_len (t := t) (l := l) p1 (by exact (ar (.i (.E Z0 (.a (.u N0) K1)) (.i (.L Z1 Z0) (.L Z1 (.a (.u N0) K1)))) 2 [_] [_,_]) hz p2); exact (ar (.i (.E (.u N0) (.a (.u N1) (.u N2))) (.e N0 (.a N1 N2))) 3 [_,_,_] []) this
theorem cd_delete (C : Calls call) (B : Buf H w σ) (un : σ.un = true) (X : Ed σ t) {s e : Int} (h1 : 1 ≤ s) (h2 : s < e) (h3 : e ≤ σ.zv) (hr : σ.rows.length + 20 < lim)
   (h : ∀ v H' σ' t' pc,Cd w H σ t (.del ⟨umOf σ,pnOf (atB σ.rows) σ.pb s,nz (frOf s e σ.ms),s,pc,midT t s e,decide (σ.pt = e)⟩) σ' t' H' → t'.length ≤ t.length → Q v H') : call (n + 5) .delete [.ref w.b,.int s,.int e] H Q := by
 have hz := X.zv
 refine c_delete C B un X h1 h2 h3 hr λ v H' c a b pc X' Hp G => h v H' _ _ pc ⟨G,X',did_del h1 h2 (by exact (ar (.i (.E Z0 (.a (.u N0) K1)) (.i (.L Z1 Z0) (.L Z1 (.a (.u N0) K1)))) 2 [_] [_,_]) hz h3),nDel_rows s e pc,λ p z => ?_,rfl,(deld_kp s e pc c a b).1,(deld_kp s e pc c a b).2⟩ ?_
 · cases z; exact Hp
 · have := delT_len (t := t) h1 (Int.le_of_lt h2) (by exact (ar (.i (.E Z0 (.a (.u N0) K1)) (.i (.L Z1 Z0) (.L Z1 (.a (.u N0) K1)))) 2 [_] [_,_]) hz h3); exact (ar (.i (.E (.u N0) (.s (.u N1) (.s Z0 Z1))) (.i (.T Z1 Z0) (.l N0 N1))) 2 [_,_] [_,_]) this h2
theorem cd_replace (C : Calls call) (B : Buf H w σ) (un : σ.un = true) (X : Ed σ t) {s e : Int} {cs : Addr} {l : List Int} (h1 : 1 ≤ s) (h2 : s < e) (h3 : e ≤ σ.zv) (hr : σ.rows.length + 20 < lim) (hl : H cs = some (.list (il l))) (hn : ¬ Ow w σ cs) (h0 : l ≠ []) (hs : t.length + l.length ≤ 1000)
   (h : ∀ v H' σ' t' pc,Cd w H σ t (.rep ⟨umOf σ,pnOf (atB σ.rows) σ.pb s,nz (frOf s e σ.ms),s,pc,midT t s e,decide (σ.pt = e)⟩ (s + l.length)) σ' t' H' → t'.length ≤ t.length + l.length → Q v H') : call (n + 5) .replace [.ref w.b,.int s,.int e,.ref cs] H Q := by
 have hz := X.zv
 have hd := delT_len (t := t) h1 (Int.le_of_lt h2) (by exact (ar (.i (.E Z0 (.a (.u N0) K1)) (.i (.L Z1 Z0) (.L Z1 (.a (.u N0) K1)))) 2 [_] [_,_]) hz h3)
 refine c_replace C B un X h1 h2 h3 hr hl hn h0 hs λ v H' c a b pc X' Hp G => h v H' _ _ pc ⟨G,X', ?_, ?_,λ p z => ?_,rfl,(repd_kp s e pc _ c a b).1,(repd_kp s e pc _ c a b).2⟩ ?_
 · exact ⟨⟨delT t s e,mapP (fDel s e) σ.ms⟩,did_del h1 h2 (by exact (ar (.i (.E Z0 (.a (.u N0) K1)) (.i (.L Z1 Z0) (.L Z1 (.a (.u N0) K1)))) 2 [_] [_,_]) hz h3),did_rep h1 h2 (by exact (ar (.i (.E Z0 (.a (.u N0) K1)) (.i (.L Z1 Z0) (.L Z1 (.a (.u N0) K1)))) 2 [_] [_,_]) hz h3) h0⟩
 · refine (?_ : (σ.nDel s e pc).rows ++ [.ins s (s + l.length)] = _)
   rw [nDel_rows]
   refine (?_ : _ = σ.rows ++ ((umR (umOf σ) ++ pnR (pnOf (atB σ.rows) σ.pb s) ++ mrkRows (nz (frOf s e σ.ms)) ++ [.del s pc (decide (σ.pt = e))]) ++ [.ins s (s + l.length)]))
   simp only [List.append_assoc]
 · cases z; exact Hp
 · have := insT_len (t := delT t s e) (l := l) h1 (by exact (ar (.i (.E (.u N0) (.s (.u N1) (.s Z0 Z1))) (.i (.E Z2 (.a (.u N1) K1)) (.i (.L Z0 Z2) (.L Z1 (.a (.u N0) K1))))) 3 [_,_] [_,_,_]) hd hz h3); exact (ar (.i (.E (.u N0) (.a (.u N1) (.u N2))) (.i (.E (.u N1) (.s (.u N3) (.s Z0 Z1))) (.i (.T Z1 Z0) (.l N0 (.a N3 N2))))) 4 [_,_,_,_] [_,_]) this hd h2
end

end P_C20

section P_C21
open PySem

structure Ud (w : Wh) (H : AHeap) (σ : Sg) (t : List Int) (g : Gr) (V : Vw) (σ' : Sg) (H' : AHeap) (hg : Gr) : Prop where
 go : Go w σ H σ' H'
 ed : Ed σ' V.t
 ms : σ'.ms = V.ms
 rel : hg.rel ⟨t,σ.ms⟩ V
 rows : σ'.rows = (match g.um with | some _ => (σ.rows ++ hg.rows).map (ren σ.sv σ'.sv) | none => σ.rows ++ hg.rows)
 pc : ∀ p,hg.pc = some p → PcF H w σ' H' p.1 p.2
 um : hg.um = umOf σ
 kp : Kp σ σ'
 sv : σ'.sv = (match g.um with | some _ => σ'.tk | none => σ.sv)
 pt : σ'.pt = g.back σ'.zv
section
variable {call : Nat → Fn → List AV → AHeap → (AV → AHeap → Prop) → Prop} {n : Nat} {H H' : AHeap} {w : Wh} {σ σ' : Sg} {Q : AV → AHeap → Prop} {t : List Int} {A D : List Row} {L : Addr}
theorem umOf_none (h : σ.sv < σ.tk) : umOf σ = none := by
 unfold umOf; rw [if_neg]; rw [decide_eq_true h]; exact λ z => by cases z.1
theorem und_rows (un : σ.un = true) (s k : Int) (q : Bool) (V : List (Addr × Int)) (c : List AV) (a e : Int) : (σ.und s k q V c a e).rows = σ.rows ++ (umR (umOf σ) ++ [.ins s (s + k)]) := insd_rows (σ := { σ with pt := s }) un k c a e
theorem und_kp (s k : Int) (q : Bool) (V : List (Addr × Int)) (c : List AV) (a e : Int) : Kp σ (σ.und s k q V c a e) ∧ (σ.und s k q V c a e).sv = σ.sv := by
 have h := nIns_eq (σ := { σ with pt := s }) s k
 exact ⟨⟨h.2.2.2.2.2.2.2.2.2.2.2,h.2.2.2.2.2.2.2.2.2.2.1,by refine (?_ : σ.tk < σ.tk + 1); exact ar (.T Z0 (.a Z0 K1)) 1 [] [_]⟩,h.2.2.2.2.2.2.2.1⟩
theorem front_last {um pn : Option Int} (hA : A = [] ∨ ∃ A',A = A' ++ [.bnd]) : ∀ r,(A ++ umR um ++ pnR pn).getLast? = some r → r.isM = false := by
 intro r h
 rw [List.getLast?_append,List.getLast?_append] at h
 cases pn with
 | some p => cases h; rfl
 | none =>
   cases um with
   | some u => cases h; rfl
   | none =>
     rcases hA with rfl | ⟨A',rfl⟩
     · exact nn h
     · rw [List.getLast?_append] at h; cases h; rfl
theorem ud_front (C : Calls call) {H₀ : AHeap} {σ₀ : Sg} {t₀ : List Int} {V : Vw} {g hg : Gr} {um pn : Option Int} {ρ : Locals} {Qs : SPost} (B : Buf H w σ) (un : σ.un = true) (X : Ed σ V.t) (hms : σ.ms = V.ms) (G : Go w σ₀ H₀ σ H) (hgu : g.um = um)
   (hL : H L = some (.list ((A ++ umR um ++ pnR pn ++ D).map Row.av))) (nL : ¬ Ow w σ L) (hl : A.length + 2 < lim) (hA : A = [] ∨ ∃ A',A = A' ++ [.bnd]) (gl : GL w L ρ (A ++ umR um ++ pnR pn).length) (hu : ∀ u,um = some u → u = σ.sv) (hr : σ.rows.length ≤ lim)
   (hrel : hg.rel ⟨t₀,σ₀.ms⟩ V) (hrows : σ.rows = σ₀.rows ++ hg.rows) (hpc : ∀ p,hg.pc = some p → PcF H₀ w σ H p.1 p.2) (hum : hg.um = umOf σ₀) (kp : Kp σ₀ σ) (hsv : σ.sv = σ₀.sv) (hpt : (match pn with | some p => min (max p 1) σ.zv | none => σ.pt) = g.back σ.zv)
   (h : ∀ H' σ' ρ',GL w L ρ' A.length → Ud w H₀ σ₀ t₀ g V σ' H' hg → Qs .next ρ' H') : wh (call (n + 2)) gT gB Qs 3 ρ H := by
 refine g_front (D := D) C B un hL nL hl hA gl hu hr λ H' x ρ' g' G2 => h H' ((σ.pntd pn).unmd um x) ρ' g' ?_
 have Gt := G.trans G2
 have hz := X.zv
 have p1 := X.p1
 have p2 := X.p2
 have hpn : (σ.pntd pn).pt = g.back σ.zv ∧ 1 ≤ (σ.pntd pn).pt ∧ (σ.pntd pn).pt ≤ σ.zv := by
   cases pn with
   | none => exact ⟨hpt,p1,p2⟩
   | some p =>
     refine ⟨hpt, ?_, ?_⟩
     · refine (?_ : 1 ≤ min (max p 1) σ.zv); exact (ar (.i (.E Z0 (.a (.u N0) K1)) (.L K1 (.i (.o Z1 K1) Z0))) 2 [_] [_,_]) hz
     · refine (?_ : min (max p 1) σ.zv ≤ σ.zv); exact ar (.L (.i (.o Z0 K1) Z1) Z1) 2 [] [_,_]
 obtain ⟨q0,q1,q2⟩ := hpn
 have hσ : (σ.pntd pn).cells = σ.cells ∧ (σ.pntd pn).gs = σ.gs ∧ (σ.pntd pn).ge = σ.ge ∧ (σ.pntd pn).zv = σ.zv ∧ (σ.pntd pn).ms = σ.ms ∧ (σ.pntd pn).rows = σ.rows ∧ (σ.pntd pn).un = σ.un ∧ (σ.pntd pn).pb = σ.pb ∧ (σ.pntd pn).tk = σ.tk ∧ (σ.pntd pn).sv = σ.sv := by
   cases pn <;> exact ⟨rfl,rfl,rfl,rfl,rfl,rfl,rfl,rfl,rfl,rfl⟩
 obtain ⟨s1,s2,s3,s4,s5,s6,s7,s8,s9,s10⟩ := hσ
 generalize σ.pntd pn = σp at *
 cases um with
 | none =>
   exact ⟨Gt,⟨X.txt.of s1 s2 s3,s4.trans hz,s5 ▸ X.ok,q1,s4 ▸ q2⟩,s5.trans hms,hrel,by rw [hgu]; exact s6.trans hrows,λ p hp => (hpc p hp).go G2,hum,⟨s7.trans kp.un,s8.trans kp.pb,by refine (?_ : σ₀.tk < σp.tk); rw [s9]; exact kp.tk⟩,by rw [hgu]; exact s10.trans hsv,by refine (?_ : σp.pt = g.back σp.zv); rw [s4]; exact q0⟩
 | some u =>
   refine ⟨Gt,⟨X.txt.of s1 s2 s3,s4.trans hz,s5 ▸ X.ok,q1,s4 ▸ q2⟩,s5.trans hms,hrel, ?_,λ p hp => (hpc p hp).go G2,hum,⟨s7.trans kp.un,s8.trans kp.pb,by refine (?_ : σ₀.tk < σp.tk); rw [s9]; exact kp.tk⟩,by rw [hgu]; rfl,by refine (?_ : σp.pt = g.back σp.zv); rw [s4]; exact q0⟩
   rw [hgu]
   refine (?_ : σp.rows.map (ren σp.sv σp.tk) = (σ₀.rows ++ hg.rows).map (ren σ₀.sv σp.tk))
   rw [s6,s10,hsv,hrows]
theorem ud_step (C : Calls call) (B : Buf H w σ) (un : σ.un = true) (X : Ed σ t) (ha : atB σ.rows = true) (hst : σ.sv ≤ σ.tk) {g : Gr} {V : Vw} (hrel : g.rel V ⟨t,σ.ms⟩) (hp : ∀ p,g.pc = some p → PcN w σ H p.1 p.2) (hu : ∀ u,g.um = some u → u = σ.sv)
   (hk : V.ms.Pairwise λ x y => x.k ≠ y.k) (hVl : V.t.length ≤ 500) (htl : t.length ≤ 500) (hW : V.ms.length ≤ 2) (hr : σ.rows.length + 60 < lim) {b : Nat}
   (hL : H L = some (.list ((A ++ g.rows ++ List.replicate b Row.bnd ++ D).map Row.av))) (nL : ¬ Ow w σ L) (hA : A = [] ∨ ∃ A',A = A' ++ [.bnd]) (hl : (A ++ g.rows).length + b + 20 < lim)
   (h : ∀ H' σ' hg,Ud w H σ t g V σ' H' hg → Q (.int A.length) H') : call (n + 10) .undo_group [.ref w.b,.ref L,.int ((A ++ g.rows).length + b : Nat)] H Q := by
 have fin : ∀ {H'} {ρ' : Locals},GL w L ρ' A.length → Q (.int A.length) H' → sq (call (n + 9)) [.ret (some (.var 2))] (postQ Q) .next ρ' H' := λ g q => s_ret (v := .int A.length) g.r2 q
 have frl : ∀ (s e : Int),(nz (frOf s e V.ms)).length ≤ 2 := λ s e => Nat.le_trans (List.length_filter_le _ _) (by unfold frOf; rw [List.length_map]; exact Nat.le_trans (List.length_filter_le _ _) hW)
 have hz := X.zv
 cases g with
 | ins um s e =>
   have hrel : RIns s e V ⟨t,σ.ms⟩ := hrel
   refine group_in (R := A ++ (Gr.ins um s e).rows) (N := 4) (D := D) C hL (λ r hr => ?_) (by exact (ar (.i (.t (.a (.a N0 N1) (.k 20)) N2) (.t (.a N0 N1) N2)) 3 [_,_,_] []) hl) λ ρ gl => ?_
   · rw [show A ++ (Gr.ins um s e).rows = (A ++ umR um) ++ [.ins s e] by simp [Gr.rows],List.getLast?_append] at hr
     cases hr; rfl
   have hL' : H L = some (.list (((A ++ umR um) ++ .ins s e :: (List.replicate b Row.bnd ++ D)).map Row.av)) := by rw [hL]; simp [Gr.rows]
   have gl' : GL w L ρ ((A ++ umR um).length + 1) := by have := gl; simp only [Gr.rows,List.length_append,List.length_singleton] at this; rw [List.length_append]; exact this
   have hll : (A ++ umR um).length + 1 = (A ++ (Gr.ins um s e).rows).length := by simp [Gr.rows]; exact ar (.e (.a (.a N0 N1) K1) (.a N0 (.a N1 K1))) 2 [_,_] []
   have h1 := hrel.h1; have h2 := hrel.h2; have h3 : e ≤ (t.length : Int) + 1 := hrel.h3
   refine g_ins (n := n + 2) C B un X hL' nL (by exact (ar (.i (.e (.a N0 K1) N1) (.i (.t (.a (.a N1 N2) (.k 20)) N3) (.t (.a N0 K1) N3))) 4 [_,_,_,_] []) hll hl) h1 h2 (by exact (ar (.i (.E Z0 (.a (.u N0) K1)) (.i (.L Z1 (.a (.u N0) K1)) (.L Z1 Z0))) 2 [_] [_,_]) hz h3) (by exact (ar (.i (.t (.a N0 (.k 60)) N1) (.t (.a N0 (.k 20)) N1)) 2 [_,_] []) hr) gl' λ H1 c a b' pc ρ1 g1 hL1 nL1 X1 Hp1 G1 => ?_
   have kd := deld_kp (σ := { σ with pt := s }) s e pc c a b'
   have ems : (({ σ with pt := s } : Sg).deld s e pc c a b').ms = V.ms := hrel.ms.symm
   have et : delT t s e = V.t := hrel.t.symm
   refine ud_front (n := n + 7) (um := um) (pn := none) (g := .ins um s e) (hg := .del ⟨umOf σ,pnOf (atB σ.rows) σ.pb s,nz (frOf s e σ.ms),s,pc,midT t s e,decide (s = e)⟩) (V := V) (D := .ins s e :: (List.replicate b Row.bnd ++ D)) C G1.buf (kd.1.un.trans un) (et ▸ X1) ems G1 rfl (by rw [hL1]; simp [pnR]) nL1 (by simp [Gr.rows] at hl; exact (ar (.i (.t (.a (.a (.a N0 (.a N1 K1)) N2) (.k 20)) N3) (.t (.a N0 K2) N3)) 4 [_,_,_,_] []) hl) hA (by simpa [pnR] using g1)
     (λ u z => (hu u z).trans kd.2.symm) ?_ (und_ins hrel) ?_ (λ p z => by cases z; exact Hp1) rfl ⟨kd.1.un,kd.1.pb,kd.1.tk⟩ kd.2 ?_ λ H' σ' ρ' gl' ud => fin gl' (h H' σ' _ ud)
   · have e1 : (({ σ with pt := s } : Sg).deld s e pc c a b').rows = _ := nDel_rows (σ := { σ with pt := s }) s e pc
     rw [e1]
     simp only [List.length_append,mrkRows,List.length_map,List.length_singleton]
     have a1 : (umR (umOf σ)).length ≤ 1 := by cases umOf σ <;> simp [umR]
     have a2 : (pnR (pnOf (atB σ.rows) σ.pb s)).length ≤ 1 := by cases pnOf (atB σ.rows) σ.pb s <;> simp [pnR]
     have a3 : (nz (frOf s e σ.ms)).length ≤ 2 := Nat.le_trans (List.length_filter_le _ _) (by unfold frOf; rw [List.length_map]; exact Nat.le_trans (List.length_filter_le _ _) (ms_le2 X.ok))
     have a1' : (umR (umOf { σ with pt := s })).length ≤ 1 := a1
     exact (ar (.i (.l N0 K1) (.i (.l N1 K1) (.i (.l N2 K2) (.i (.t (.a N3 (.k 60)) N4) (.l (.a N3 (.a (.a (.a N0 N1) N2) K1)) N4))))) 5 [_,_,_,_,_] []) a1' a2 a3 hr
   · exact nDel_rows (σ := { σ with pt := s }) s e pc
   · refine (?_ : ptOut s s e = s)
     unfold ptOut; rw [if_neg (by exact ar (.i (.T Z0 Z0) .f) 1 [] [_])]
 | del d =>
   have hrel : RDel d.W d.s d.l V ⟨t,σ.ms⟩ := hrel
   obtain ⟨et,ems,rins,hV⟩ := und_del hrel hk
   refine group_in (R := A ++ (Gr.del d).rows) (N := 4) (D := D) C hL (λ r hr => ?_) (by exact (ar (.i (.t (.a (.a N0 N1) (.k 20)) N2) (.t (.a N0 N1) N2)) 3 [_,_,_] []) hl) λ ρ gl => ?_
   · rw [show A ++ (Gr.del d).rows = (A ++ umR d.um ++ pnR d.pn ++ mrkRows d.W) ++ [.del d.s d.pc d.q] by simp [Gr.rows,Gd.rows],List.getLast?_append] at hr
     cases hr; rfl
   have hL' : H L = some (.list (((A ++ umR d.um ++ pnR d.pn) ++ mrkRows d.W ++ .del d.s d.pc d.q :: (List.replicate b Row.bnd ++ D)).map Row.av)) := by rw [hL]; simp [Gr.rows,Gd.rows]
   have hlen : (A ++ (Gr.del d).rows).length = ((A ++ umR d.um ++ pnR d.pn) ++ mrkRows d.W).length + 1 := by simp [Gr.rows,Gd.rows]; exact ar (.e (.a N0 (.a N1 (.a N2 (.a N3 K1)))) (.a (.a N0 (.a N1 (.a N2 N3))) K1)) 4 [_,_,_,_] []
   have h1 := hrel.h1
   have h2 := rins.h2
   have h3 := rins.h3
   have hW2 : d.W.length ≤ 2 := by rw [hrel.w]; exact frl _ _
   have hVt := insT_len (t := t) (l := d.l) h1 (by have := hrel.t; have e := delT_len (t := V.t) h1 (by exact ar (.L Z0 (.a Z0 (.u N0))) 1 [_] [_]) hrel.h2; have : t = delT V.t d.s (d.s + d.l.length) := this; rw [this]; exact (ar (.i (.E (.u N0) (.s (.u N1) (.s (.a Z0 (.u N2)) Z0))) (.i (.L (.a Z0 (.u N2)) (.a (.u N1) K1)) (.L Z0 (.a (.u N0) K1)))) 3 [_,_,_] [_]) e h3)
   have hVt' : (V.t.length : Int) = t.length + d.l.length := by rw [← et]; exact hVt
   have hlw : (mrkRows d.W).length = d.W.length := by simp [mrkRows]
   refine g_del (n := n) (k := 3) (A := A ++ umR d.um ++ pnR d.pn) (D := List.replicate b Row.bnd ++ D) (W := d.W) (s := d.s) (pc := d.pc) (q := d.q) (l := d.l) C B un X hL' nL (by rw [hlen,List.length_append,hlw] at hl; exact (ar (.i (.t (.a (.a (.a (.a N0 N1) K1) N2) (.k 20)) N3) (.t (.a (.a N0 N1) K1) N3)) 4 [_,_,_,_] []) hl) (front_last hA) h1 (by exact (ar (.i (.E (.u N0) (.a (.u N1) (.u N2))) (.i (.E Z0 (.a (.u N1) K1)) (.i (.L (.a Z1 (.u N2)) (.a (.u N0) K1)) (.L Z1 Z0)))) 3 [_,_,_] [_,_]) hVt' hz h3) (hp _ rfl) hrel.h0 (by exact (ar (.i (.E (.u N0) (.a (.u N1) (.u N2))) (.i (.l N0 (.k 500)) (.l (.a N1 N2) KK))) 3 [_,_,_] []) hVt' hVl) (by exact (ar (.i (.l N0 K2) (.l N0 (.k 10))) 1 [_] []) hW2) hV ⟨by exact (ar (.i (.t (.a N0 (.k 60)) N1) (.t (.a N0 K2) N1)) 2 [_,_] []) hr,last_st ha⟩ (hlen ▸ gl) λ H1 c a e ρ1 g1 hL1 nL1 X1 G1 => ?_
   have kd := und_kp (σ := σ) d.s d.l.length d.q d.W.reverse c a e
   have er := und_rows un d.s d.l.length d.q d.W.reverse c a e
   refine ud_front (n := n + 7) (D := mrkRows d.W ++ .del d.s d.pc d.q :: (List.replicate b Row.bnd ++ D)) (um := d.um) (pn := d.pn) (g := .del d) (hg := .ins (umOf σ) d.s (d.s + d.l.length)) (V := V) C G1.buf (kd.1.un.trans un) (et ▸ X1) ems G1 rfl (by rw [hL1]; simp) nL1 (by rw [hlen] at hl; simp at hl; exact (ar (.i (.t (.a (.a (.a (.a N0 (.a N1 (.a N2 N3))) K1) N4) (.k 20)) N5) (.t (.a N0 K2) N5)) 6 [_,_,_,_,_,_] []) hl) hA g1
     (λ u z => (hu u z).trans kd.2.symm) ?_ rins er (λ p z => by exact nn z) rfl kd.1 kd.2 ?_ λ H' σ' ρ' gl' ud => fin gl' (h H' σ' _ ud)
   · rw [er]
     have a1 : (umR (umOf σ)).length ≤ 1 := by cases umOf σ <;> simp [umR]
     simp only [List.length_append,List.length_singleton]
     exact (ar (.i (.l N0 K1) (.i (.t (.a N1 (.k 60)) N2) (.l (.a N1 (.a N0 K1)) N2))) 3 [_,_,_] []) a1 hr
   · refine (?_ : _ = d.back _)
     unfold Gd.back
     cases d.pn <;> rfl
 | rep d e =>
   obtain ⟨M,hdel,hins⟩ : ∃ M,RDel d.W d.s d.l V M ∧ RIns d.s e M ⟨t,σ.ms⟩ := hrel
   obtain ⟨et,ems,rins,hV⟩ := und_del hdel hk
   refine group_in (R := A ++ (Gr.rep d e).rows) (N := 5) (D := D) C hL (λ r hr => ?_) (by exact (ar (.i (.t (.a (.a N0 N1) (.k 20)) N2) (.t (.a N0 N1) N2)) 3 [_,_,_] []) hl) λ ρ gl => ?_
   · rw [show A ++ (Gr.rep d e).rows = (A ++ umR d.um ++ pnR d.pn ++ mrkRows d.W ++ [Row.del d.s d.pc d.q]) ++ [Row.ins d.s e] by simp [Gr.rows,Gd.rows],List.getLast?_append] at hr
     cases hr; rfl
   have hL' : H L = some (.list (((A ++ umR d.um ++ pnR d.pn ++ mrkRows d.W ++ [Row.del d.s d.pc d.q]) ++ Row.ins d.s e :: (List.replicate b Row.bnd ++ D)).map Row.av)) := by rw [hL]; simp [Gr.rows,Gd.rows]
   have hlen : (A ++ (Gr.rep d e).rows).length = (A ++ umR d.um ++ pnR d.pn ++ mrkRows d.W ++ [Row.del d.s d.pc d.q]).length + 1 := by simp [Gr.rows,Gd.rows]; exact ar (.e (.a N0 (.a N1 (.a N2 (.a N3 K2)))) (.a (.a N0 (.a N1 (.a N2 (.a N3 K1)))) K1)) 4 [_,_,_,_] []
   have h1 := hins.h1; have h2 := hins.h2; have h3 : e ≤ (t.length : Int) + 1 := hins.h3
   refine g_ins (n := n + 2) (k := 4) C B un X hL' nL (by exact (ar (.i (.e N0 (.a N1 K1)) (.i (.t (.a (.a N0 N2) (.k 20)) N3) (.t (.a N1 K1) N3))) 4 [_,_,_,_] []) hlen hl) h1 h2 (by exact (ar (.i (.E Z0 (.a (.u N0) K1)) (.i (.L Z1 (.a (.u N0) K1)) (.L Z1 Z0))) 2 [_] [_,_]) hz h3) (by exact (ar (.i (.t (.a N0 (.k 60)) N1) (.t (.a N0 (.k 20)) N1)) 2 [_,_] []) hr) (hlen ▸ gl) λ H1 c a b' pc ρ1 g1 hL1 nL1 X1 Hp1 G1 => ?_
   have kd := deld_kp (σ := { σ with pt := d.s }) d.s e pc c a b'
   have eM : (({ σ with pt := d.s } : Sg).deld d.s e pc c a b').ms = M.ms := hins.ms.symm
   have etM : delT t d.s e = M.t := hins.t.symm
   have er1 : (({ σ with pt := d.s } : Sg).deld d.s e pc c a b').rows = _ := nDel_rows (σ := { σ with pt := d.s }) d.s e pc
   have um1 : umOf (({ σ with pt := d.s } : Sg).deld d.s e pc c a b') = none := umOf_none (by rw [kd.2]; refine (?_ : σ.sv < _); have := kd.1.tk; have : σ.tk < _ := this; exact (ar (.i (.L Z0 Z1) (.i (.T Z1 Z2) (.T Z0 Z2))) 3 [] [_,_,_]) hst this)
   have X1 : Ed (({ σ with pt := d.s } : Sg).deld d.s e pc c a b') M.t := etM ▸ X1
   have hpd := (hp _ rfl).go G1
   have lst : lastIns ((({ σ with pt := d.s } : Sg).deld d.s e pc c a b').st (decide ((({ σ with pt := d.s } : Sg).deld d.s e pc c a b').sv < (({ σ with pt := d.s } : Sg).deld d.s e pc c a b').tk)) (({ σ with pt := d.s } : Sg).deld d.s e pc c a b').sv).rows = false := by
     rw [st_rows,um1,er1]
     unfold lastIns umR
     simp
   have a1 : (umR (umOf σ)).length ≤ 1 := by cases umOf σ <;> simp [umR]
   have a2 : (pnR (pnOf (atB σ.rows) σ.pb d.s)).length ≤ 1 := by cases pnOf (atB σ.rows) σ.pb d.s <;> simp [pnR]
   have a3 : (nz (frOf d.s e σ.ms)).length ≤ 2 := Nat.le_trans (List.length_filter_le _ _) (by unfold frOf; rw [List.length_map]; exact Nat.le_trans (List.length_filter_le _ _) (ms_le2 X.ok))
   have rl : (({ σ with pt := d.s } : Sg).deld d.s e pc c a b').rows.length ≤ σ.rows.length + 5 := by
     rw [er1]
     simp only [List.length_append,mrkRows,List.length_map,List.length_singleton]
     have a1' : (umR (umOf { σ with pt := d.s })).length ≤ 1 := a1
     have a2' : (pnR (pnOf (atB ({ σ with pt := d.s } : Sg).rows) ({ σ with pt := d.s } : Sg).pb d.s)).length ≤ 1 := a2
     have a3' : (nz (frOf d.s e ({ σ with pt := d.s } : Sg).ms)).length ≤ 2 := a3
     refine (?_ : σ.rows.length + _ ≤ _)
     exact (ar (.i (.l N0 K1) (.i (.l N1 K1) (.i (.l N2 K2) (.l (.a N3 (.a (.a (.a N0 N1) N2) K1)) (.a N3 K5))))) 4 [_,_,_,_] []) a1' a2 a3
   have hW2 : d.W.length ≤ 2 := by rw [hdel.w]; exact frl _ _
   have hlw : (mrkRows d.W).length = d.W.length := by simp [mrkRows]
   have hzM := X1.zv
   have hMl := delT_len (t := t) h1 (Int.le_of_lt h2) h3
   have hVt := insT_len (t := M.t) (l := d.l) hdel.h1 (by have e := delT_len (t := V.t) hdel.h1 (by have := rins.h2; exact ar (.L Z0 (.a Z0 (.u N0))) 1 [_] [_]) hdel.h2; have := hdel.t; rw [this]; have := hdel.h2; exact (ar (.i (.E (.u N0) (.s (.u N1) (.s (.a Z0 (.u N2)) Z0))) (.i (.L (.a Z0 (.u N2)) (.a (.u N1) K1)) (.L Z0 (.a (.u N0) K1)))) 3 [_,_,_] [_]) e this)
   have hVt' : (V.t.length : Int) = M.t.length + d.l.length := by rw [← et]; exact hVt
   have hML : M.t.length ≤ t.length := by rw [← etM]; exact (ar (.i (.E (.u N0) (.s (.u N1) (.s Z0 Z1))) (.i (.T Z1 Z0) (.l N0 N1))) 2 [_,_] [_,_]) hMl h2
   have hh2 : d.s ≤ (({ σ with pt := d.s } : Sg).deld d.s e pc c a b').zv := by rw [hzM,← etM]; exact (ar (.i (.E (.u N0) (.s (.u N1) (.s Z0 Z1))) (.i (.L Z0 (.a (.u N1) K1)) (.L Z1 (.a (.u N0) K1)))) 2 [_,_] [_,_]) hMl h3
   generalize hσ1 : (({ σ with pt := d.s } : Sg).deld d.s e pc c a b') = σ1 at *
   have hg1 : GL w L ρ1 (((A ++ umR d.um ++ pnR d.pn) ++ mrkRows d.W).length + 1) := by have := g1; simp only [List.length_append,List.length_singleton] at this ⊢; exact this
   have un1 : σ1.un = true := kd.1.un.trans un
   refine g_del (n := n) (k := 3) (A := A ++ umR d.um ++ pnR d.pn) (D := Row.ins d.s e :: (List.replicate b Row.bnd ++ D)) (W := d.W) (s := d.s) (pc := d.pc) (q := d.q) (l := d.l) C G1.buf un1 X1 (by rw [hL1]; simp) nL1 (by rw [hlen] at hl; simp only [List.length_append,hlw,List.length_singleton] at hl ⊢; exact (ar (.i (.t (.a (.a (.a (.a (.a (.a (.a N0 N1) N2) N3) K1) K1) N4) (.k 20)) N5) (.t (.a (.a (.a (.a N0 N1) N2) N3) K1) N5)) 6 [_,_,_,_,_,_] []) hl) (front_last hA) hdel.h1 hh2 hpd hdel.h0 (by exact (ar (.i (.E (.u N0) (.a (.u N1) (.u N2))) (.i (.l N0 (.k 500)) (.l (.a N1 N2) KK))) 3 [_,_,_] []) hVt' hVl) (by exact (ar (.i (.l N0 K2) (.l N0 (.k 10))) 1 [_] []) hW2) (by rw [eM]; exact hV) ⟨by exact (ar (.i (.l N0 (.a N1 K5)) (.i (.t (.a N1 (.k 60)) N2) (.t (.a N0 K2) N2))) 3 [_,_,_] []) rl hr,lst⟩ hg1 λ H2 c2 a2' e2 ρ2 g2 hL2 nL2 X2 G2 => ?_
   have kd2 := und_kp (σ := σ1) d.s d.l.length d.q d.W.reverse c2 a2' e2
   have er2 := und_rows (σ := σ1) un1 d.s d.l.length d.q d.W.reverse c2 a2' e2
   rw [um1] at er2
   refine ud_front (n := n + 7) (D := mrkRows d.W ++ .del d.s d.pc d.q :: Row.ins d.s e :: (List.replicate b Row.bnd ++ D)) (um := d.um) (pn := d.pn) (g := .rep d e) (hg := .rep ⟨umOf σ,pnOf (atB σ.rows) σ.pb d.s,nz (frOf d.s e σ.ms),d.s,pc,midT t d.s e,decide (d.s = e)⟩ (d.s + d.l.length)) (V := V) C G2.buf (kd2.1.un.trans un1) (et ▸ X2) ?_ (G1.trans G2) rfl (by rw [hL2]; simp) nL2 (by rw [hlen] at hl; simp at hl; exact (ar (.i (.t (.a (.a (.a (.a N0 (.a N1 (.a N2 (.a N3 K1)))) K1) N4) (.k 20)) N5) (.t (.a N0 K2) N5)) 6 [_,_,_,_,_,_] []) hl) hA g2
     (λ u z => (hu u z).trans (kd2.2.trans kd.2).symm) ?_ ⟨M,und_ins hins,rins⟩ ?_ (λ p z => by cases z; exact Hp1.go G2) rfl ⟨kd2.1.un.trans kd.1.un,kd2.1.pb.trans kd.1.pb,Int.lt_trans kd.1.tk kd2.1.tk⟩ (kd2.2.trans kd.2) ?_ λ H' σ' ρ' gl' ud => fin gl' (h H' σ' _ ud)
   · refine (?_ : subs d.W.reverse (mapP _ σ1.ms) = V.ms)
     rw [eM]; exact ems
   · rw [er2]
     simp only [List.length_append,List.length_singleton,umR,List.length_nil]
     exact (ar (.i (.l N0 (.a N1 K5)) (.i (.t (.a N1 (.k 60)) N2) (.l (.a N0 (.a K0 K1)) N2))) 3 [_,_,_] []) rl hr
   · rw [er2,er1]
     refine (?_ : σ.rows ++ _ ++ _ = σ.rows ++ ((umR (umOf σ) ++ pnR (pnOf (atB σ.rows) σ.pb d.s) ++ mrkRows (nz (frOf d.s e σ.ms)) ++ [.del d.s pc (decide (d.s = e))]) ++ [.ins d.s (d.s + d.l.length)]))
     refine (?_ : σ.rows ++ (umR (umOf σ) ++ pnR (pnOf (atB σ.rows) σ.pb d.s) ++ mrkRows (nz (frOf d.s e σ.ms)) ++ [.del d.s pc (decide (d.s = e))]) ++ ([] ++ [.ins d.s (d.s + d.l.length)]) = _)
     simp only [List.append_assoc,List.nil_append]
   · refine (?_ : _ = d.back _)
     unfold Gd.back
     cases d.pn <;> rfl
end

end P_C21

section P_C22
open PySem

structure Dk where
 (D d0 d1 : Addr)
structure Dek (H : AHeap) (d : Dk) (c : Nat) : Prop where
 D : ∃ k : Nat,k ≤ c ∧ H d.D = some (.list [.ref d.d0,.ref d.d1,.int k])
 d0 : ∃ a : List Int,a.length ≤ 100 ∧ H d.d0 = some (.list (il a))
 d1 : ∃ b : List Int,b ≠ [] ∧ b.length ≤ 100 ∧ H d.d1 = some (.list (il b))
 n1 : d.D ≠ d.d0
 n2 : d.D ≠ d.d1
 n3 : d.d0 ≠ d.d1
noncomputable def Dx (d : Dk) (H H' : AHeap) : Prop := ∀ a o,H a = some o → a ≠ d.D → a ≠ d.d0 → H' a = some o
section
variable {call : Fn → List AV → AHeap → (AV → AHeap → Prop) → Prop} {H : AHeap} {ρ : Locals}
noncomputable def Val (call : Fn → List AV → AHeap → (AV → AHeap → Prop) → Prop) (ρ : Locals) (H : AHeap) (e : ME) (v : AV) : Prop := ∀ P : AV → AHeap → Prop,P v H → mE call e ρ H P
theorem Val.of {e : ME} {v : AV} (h : ev H ρ e = some v) : Val call ρ H e v := λ _ q => ev_ok e h q
theorem Val.add {a b : ME} {x y : Int} (ha : Val call ρ H a (.int x)) (hb : Val call ρ H b (.int y)) : Val call ρ H (.bin .add a b) (.int (x + y)) := λ _ q => ha _ (hb _ q)
theorem Val.sub {a b : ME} {x y : Int} (ha : Val call ρ H a (.int x)) (hb : Val call ρ H b (.int y)) : Val call ρ H (.bin .sub a b) (.int (x - y)) := λ _ q => ha _ (hb _ q)
theorem Val.mod {a b : ME} {x y : Int} (ha : Val call ρ H a (.int x)) (hb : Val call ρ H b (.int y)) (h : 0 < y) : Val call ρ H (.bin .mod a b) (.int (x.fmod y)) := λ _ q => ha _ (hb _ ⟨h,q⟩)
theorem Val.fdiv {a b : ME} {x y : Int} (ha : Val call ρ H a (.int x)) (hb : Val call ρ H b (.int y)) (h : 0 < y) (h2 : y < 1073741824) : Val call ρ H (.bin .fdiv a b) (.int (x.fdiv y)) := λ _ q => ha _ (hb _ ⟨h,h2,q⟩)
theorem Val.mul {a b : ME} {x y : Int} (ha : Val call ρ H a (.int x)) (hb : Val call ρ H b (.int y)) (h : x.natAbs < 2 ^ 64) (h2 : y.natAbs < 2 ^ 64) : Val call ρ H (.bin .mul a b) (.int (x * y)) := λ _ q => ha _ (hb _ ⟨h,h2,q⟩)
theorem Val.idx {a b : ME} {u : AV} {y : Int} {v : AV} (ha : Val call ρ H a u) (hb : Val call ρ H b (.int y)) (h : idxv H u (.int y) = some v) : Val call ρ H (.idx a b) v := λ P q => ha _ (hb _ (by
 refine (?_ : (match idxv H u (.int y) with | some r => P r H | none => False))
 rw [h]; exact q))
theorem s_setIdxE {o i e : ME} {x : Addr} {xs : List AV} {j : Nat} {u : AV} {ss : List MS} {Q : SPost} (he : Val call ρ H e u) (ho : ev H ρ o = some (.ref x)) (hi : ev H ρ i = some (.int j)) (hx : H x = some (.list xs)) (hj : j < xs.length) (hl : xs.length ≤ lim)
   (h : mSs call ss ρ (H.set x (.list (xs.set j u))) Q) : mSs call (.setIdx o i e :: ss) ρ H Q := by
 refine he _ (ev_ok o ho (ev_ok i hi ?_))
 refine (?_ : (match H x with
     | some (.list xs) => xs.length ≤ lim ∧ (if 0 ≤ (j : Int) then (j : Int) < xs.length ∧ mSs call ss ρ (H.set x (.list (xs.set (j : Int).toNat u))) Q else 0 ≤ (j : Int) + xs.length ∧ mSs call ss ρ (H.set x (.list (xs.set ((j : Int) + xs.length).toNat u))) Q)
     | some (.idict es) => es.length ≤ 900 ∧ mSs call ss ρ (H.set x (.idict (putKey es j u))) Q
     | _ => False))
 rw [hx]
 refine ⟨hl, ?_⟩
 rw [if_pos (by exact ar (.L K0 (.u N0)) 1 [_] [])]
 exact ⟨by exact (ar (.i (.t N0 N1) (.T (.u N0) (.u N1))) 2 [_,_] []) hj,by rw [Int.toNat_natCast]; exact h⟩
noncomputable def cmpK (op : Cop) (u v : AV) (Q : Bool → AHeap → Prop) (H : AHeap) : Prop := match cmpv H op u v with
 | some r => Q r H
 | none => False
theorem cmpK_of {op : Cop} {u v : AV} {Q : Bool → AHeap → Prop} {r : Bool} (e : cmpv H op u v = some r) (h : Q r H) : cmpK op u v Q H := by unfold cmpK; rw [e]; exact h
theorem t_cmp {op : Cop} {a b : ME} {Q : Bool → AHeap → Prop} (h : mE call a ρ H λ u H₁ => mE call b ρ H₁ λ v H₂ => cmpK op u v Q H₂) : mT call (.cmp op a b) (mE call (.cmp op a b) ρ H) ρ H Q := h
theorem e_pop0 {o : ME} {x : Addr} {u : AV} {xs : List AV} {P : AV → AHeap → Prop} (ho : ev H ρ o = some (.ref x)) (hx : H x = some (.list (u :: xs))) (hl : xs.length < lim) (h : P u (H.set x (.list xs))) : mE call (.pop0 o) ρ H P := by
 refine ev_ok o ho ?_
 refine (?_ : (match H x with | some (.list (u :: xs)) => xs.length < lim ∧ P u (H.set x (.list xs)) | _ => False))
 rw [hx]; exact ⟨hl,h⟩
theorem fmod_in (x : Int) {y : Int} (h : 0 < y) : 0 ≤ x.fmod y ∧ x.fmod y < y := ⟨Int.fmod_nonneg_of_pos x h,Int.fmod_lt_of_pos x h⟩
end
section
variable {call : Nat → Fn → List AV → AHeap → (AV → AHeap → Prop) → Prop} {n : Nat} {H : AHeap} {Q : AV → AHeap → Prop} {d : Dk} {c : Nat}
theorem Dx.set {x : Addr} {o : AO} {H' : AHeap} (h : Dx d H H') (hx : x = d.D ∨ x = d.d0 ∨ H x = none) : Dx d H (H'.set x o) := λ a q e n1 n2 =>
 at_other (h a q e n1 n2) λ z => by
   rcases hx with r | r | r
   · exact n1 (z.trans r)
   · exact n2 (z.trans r)
   · rw [z,r] at e; exact nn e
theorem Dx.refl : Dx d H H := λ _ _ e _ _ => e
theorem c_draw (C : Calls call) (X : Dek H d c) {many : Int} (h1 : 0 < many) (h2 : many < 1000) (hc : c < 1000000) (h : ∀ v H',0 ≤ v → v < many → Dek H' d (c + 1) → Dx d H H' → Q (.int v) H') : call (n + 1) .draw [.ref d.D,.int many] H Q := by
 refine enter C (as := [_,_]) (b := b_draw) rfl rfl rfl ?_
 obtain ⟨k,hk,hD⟩ := X.D
 obtain ⟨a,ha,h0⟩ := X.d0
 obtain ⟨b,hb,hbl,hd1⟩ := X.d1
 have n1 := X.n1
 have n2 := X.n2
 have n3 := X.n3
 refine s_iteE (t_cmp (ev_ok _ (v := .ref d.d0) (v_idl rfl rfl hD rfl) (e_lst (vs := []) rfl λ x hx => ?_)))
 have nx : ∀ {y o},H y = some o → y ≠ x := λ e z => by rw [z,hx] at e; exact nn e
 have hD' : (H.set x (.list [])) d.D = _ := at_other hD (nx hD)
 have h0' : (H.set x (.list [])) d.d0 = _ := at_other h0 (nx h0)
 have hd1' : (H.set x (.list [])) d.d1 = _ := at_other hd1 (nx hd1)
 have hx' : (H.set x (.list [])) x = some (.list []) := at_self
 have dx : Dx d H (H.set x (.list [])) := Dx.refl.set (.inr (.inr hx))
 have nx0 := nx h0
 generalize H.set x (.list []) = H1 at *
 have hcmp : cmpv H1 .ne (.ref d.d0) (.ref x) = some (decide (a ≠ [])) := by
   refine (?_ : (if d.d0 = x then none else (if d.d0 = x then some true else (match H1 d.d0,H1 x with
     | some (.list xs),some (.list ys) => if xs.length = ys.length then eqvl (eqv H1 4) xs ys else some false
     | _,_ => none))).map (!·) = _)
   rw [if_neg nx0,if_neg nx0,h0',hx']
   cases a with
   | nil => rfl
   | cons y l => rfl
 refine cmpK_of hcmp ⟨λ z => ?_,λ z => ?_⟩
 · have z : a ≠ [] := of_decide_eq_true z
   obtain ⟨y,l,rfl⟩ := List.exists_cons_of_ne_nil z
   have hi : idxv H1 (.ref d.d0) (.int 0) = some (.int y) := by rw [idx_ref,h0']; rfl
   refine s_assign (v := .int y) (v_idx (v_idl rfl rfl hD' rfl) rfl hi) ?_
   refine s_setIdxE (j := 0) (x := d.d0) (u := .int (y.fdiv many)) (Val.fdiv (Val.of (by rfl)) (Val.of (by rfl)) h1 (by exact (ar (.i (.T Z0 KK) (.T Z0 (.k 1073741824))) 1 [] [_]) h2)) (v_idl rfl rfl hD' rfl) rfl h0' (by simp) (by unfold lim; simp at ha ⊢; exact (ar (.i (.l N0 (.k 99)) (.l N0 (.k 999999))) 1 [_] []) ha) ?_
   have dx2 := dx.set (o := .list (il (y.fdiv many :: l))) (.inr (.inl rfl))
   have hD2 : (H1.set d.d0 (.list (il (y.fdiv many :: l)))) d.D = _ := at_other hD' n1
   have h02 : (H1.set d.d0 (.list (il (y.fdiv many :: l)))) d.d0 = _ := at_self
   have hd12 : (H1.set d.d0 (.list (il (y.fdiv many :: l)))) d.d1 = _ := at_other hd1' n3.symm
   refine (?_ : mSs _ _ _ (H1.set d.d0 (.list (il (y.fdiv many :: l)))) _)
   generalize H1.set d.d0 _ = H2 at *
   refine s_ite (p := (y.fdiv many == 0)) (w_cmp (v_idl (v_idl rfl rfl hD2 rfl) rfl h02 rfl) rfl rfl) (λ _ => ?_) (λ _ => s_back ?_)
   · refine s_expr (e_pop0 (x := d.d0) (v_idl rfl rfl hD2 rfl) h02 (by unfold lim; simp at ha ⊢; exact (ar (.i (.l N0 (.k 99)) (.t N0 KM)) 1 [_] []) ha) (s_back (Val.mod (Val.of (v := .int y) rfl) (Val.of (v := .int many) rfl) h1 _ ?_)))
     obtain ⟨q1,q2⟩ := fmod_in y h1
     exact h _ _ q1 q2 ⟨⟨k,by exact (ar (.i (.l N0 N1) (.l N0 (.a N1 K1))) 2 [_,_] []) hk,at_other hD2 n1⟩,⟨l,by simp at ha ⊢; exact (ar (.i (.l N0 (.k 99)) (.l N0 (.k 100))) 1 [_] []) ha,at_self⟩,⟨b,hb,hbl,at_other hd12 n3.symm⟩,n1,n2,n3⟩ (dx2.set (.inr (.inl rfl)))
   · refine Val.mod (Val.of (v := .int y) rfl) (Val.of (v := .int many) rfl) h1 _ ?_
     obtain ⟨q1,q2⟩ := fmod_in y h1
     exact h _ _ q1 q2 ⟨⟨k,by exact (ar (.i (.l N0 N1) (.l N0 (.a N1 K1))) 2 [_,_] []) hk,hD2⟩,⟨_,by simpa using ha,h02⟩,⟨b,hb,hbl,hd12⟩,n1,n2,n3⟩ dx2
 · refine s_back (s_setIdxE (j := 2) (x := d.D) (u := .int (k + 1 : Nat)) (Val.of (v_bin (v_idl rfl rfl hD' rfl) rfl rfl)) rfl rfl hD' (by simp) (by simp [lim]) ?_)
   have dx2 := dx.set (o := .list [.ref d.d0,.ref d.d1,.int (k + 1 : Nat)]) (.inl rfl)
   have hD2 : (H1.set d.D (.list [.ref d.d0,.ref d.d1,.int (k + 1 : Nat)])) d.D = _ := at_self
   have h02 : (H1.set d.D (.list [.ref d.d0,.ref d.d1,.int (k + 1 : Nat)])) d.d0 = _ := at_other h0' n1.symm
   have hd12 : (H1.set d.D (.list [.ref d.d0,.ref d.d1,.int (k + 1 : Nat)])) d.d1 = _ := at_other hd1' n2.symm
   refine (?_ : mSs _ _ _ (H1.set d.D (.list [.ref d.d0,.ref d.d1,.int (k + 1 : Nat)])) _)
   generalize H1.set d.D _ = H2 at *
   have hb0 : 0 < b.length := List.length_pos_iff.mpr hb
   obtain ⟨i1,i2⟩ := fmod_in ((k + 1 : Nat) : Int) (y := b.length) (by exact (ar (.i (.t K0 N0) (.T K0 (.u N0))) 1 [_] []) hb0)
   obtain ⟨i,hi⟩ := Int.eq_ofNat_of_zero_le i1
   have hib : i < b.length := by exact (ar (.i (.E Z0 (.u N0)) (.i (.T Z0 (.u N1)) (.t N0 N1))) 2 [_,_] [_]) hi i2
   have e2 : ev H2 (argL [.ref d.D,.int many]) (.idx (.var 0) (.int 2)) = some (.int (k + 1 : Nat)) := by exact (v_idl rfl rfl hD2 rfl)
   have e1 : ev H2 (argL [.ref d.D,.int many]) (.idx (.var 0) (.int 1)) = some (.ref d.d1) := by exact (v_idl rfl rfl hD2 rfl)
   have el : ev H2 (argL [.ref d.D,.int many]) (.len (.idx (.var 0) (.int 1))) = some (.int b.length) := by
     rw [ev_len,e1]; simp only [hd12,il_length]; rw [if_pos (by unfold lim; exact (ar (.i (.l N0 (.k 100)) (.l N0 KM)) 1 [_] []) hbl)]
   have v1 := Val.idx (call := call n) (Val.of e1) (Val.mod (Val.of e2) (Val.of el) (by exact (ar (.i (.t K0 N0) (.T K0 (.u N0))) 1 [_] []) hb0)) (v := .int b[i]) (by
     rw [idx_ref,hd12,hi]
     refine (?_ : nth _ _ = _)
     unfold nth
     rw [if_pos (by exact ar (.L K0 (.u N0)) 1 [_] []),if_pos (by unfold lim; exact (ar (.i (.E Z0 (.u N0)) (.i (.l N1 (.k 100)) (.i (.T Z0 (.u N1)) (.T (.u N0) (.u KM))))) 2 [_,_] [_]) hi hbl i2)]
     simp [hib])
   refine s_assignE (Val.mod (Val.add v1 (Val.mul (Val.of (ev_int _ _ _)) (Val.of e2) (by decide) (by omega))) (Val.of (ev_int _ _ _)) (by decide) _ ?_)
   generalize hz : (b[i] + 1640531527 * ((k + 1 : Nat) : Int)).fmod 4294966297 = z1
   obtain ⟨z1a,z1b⟩ := fmod_in (b[i] + 1640531527 * ((k + 1 : Nat) : Int)) (y := 4294966297) (by decide)
   rw [hz] at z1a z1b
   refine s_assignE (Val.mod (Val.add (Val.mul (Val.of (v := .int z1) rfl) (Val.of (v := .int z1) rfl) (by omega) (by omega)) (Val.mul (Val.of (ev_int _ _ _)) (Val.of (v := .int (k + 1 : Nat)) (by assumption)) (by decide) (by omega))) (Val.of (ev_int _ _ _)) (by decide) _ ?_)
   generalize hz2 : (z1 * z1 + 122949823 * ((k + 1 : Nat) : Int)).fmod 4294966237 = z2
   obtain ⟨z2a,z2b⟩ := fmod_in (z1 * z1 + 122949823 * ((k + 1 : Nat) : Int)) (y := 4294966237) (by decide)
   rw [hz2] at z2a z2b
   refine s_retE (Val.mod (Val.fdiv (Val.mod (Val.mul (Val.of (v := .int z2) rfl) (Val.of (v := .int z2) rfl) (by omega) (by omega)) (Val.of (ev_int _ _ _)) (by decide)) (Val.of (ev_int _ _ _)) (by decide) (by decide)) (Val.of (v := .int many) rfl) h1 _ ?_)
   obtain ⟨q1,q2⟩ := fmod_in (((z2 * z2).fmod 4294966187).fdiv 1024) h1
   exact h _ _ q1 q2 ⟨⟨k + 1,by exact (ar (.i (.l N0 N1) (.l (.a N0 K1) (.a N1 K1))) 2 [_,_] []) hk,hD2⟩,⟨a,ha,h02⟩,⟨b,hb,hbl,hd12⟩,n1,n2,n3⟩ dx2
end

end P_C22

section P_C23
open PySem

section
variable {call : Fn → List AV → AHeap → (AV → AHeap → Prop) → Prop} {H : AHeap} {ρ : Locals} {same : AHeap → Prop} {k : List AV → AHeap → Prop}
theorem e_abs {e : ME} {i : Int} {P : AV → AHeap → Prop} (he : ev H ρ e = some (.int i)) (h : P (.int (i.natAbs : Int)) H) : mE call (.abs e) ρ H P := by
 refine ev_ok e he ?_
 exact h
theorem comp_abs (hs : same H) : ∀ (l acc : List Int),acc.length + l.length ≤ 100 → k (il (acc ++ l.map λ i => (i.natAbs : Int))) H →
   mComp (bindT [101] true) ρ (λ ρ' H k => mC call Option.none ρ' H k) (λ ρ' H k => mE call (.abs (.var 101)) ρ' H k) same (il l) (il acc) H k
 | [],acc,hl,h => by
   refine (?_ : k (il acc) H)
   simpa using h
 | i :: l,acc,hl,h => by
   refine ⟨_,rfl, ?_⟩
   refine (?_ : mE call _ (upd ρ 101 (.int i)) H _)
   refine e_abs (i := i) rfl ⟨hs,by rw [il_length]; unfold lim; simp at hl; exact (ar (.i (.l (.a N0 (.a N1 K1)) (.k 100)) (.t N0 KM)) 2 [_,_] []) hl, ?_⟩
   have e : il acc ++ [AV.int (i.natAbs : Int)] = il (acc ++ [(i.natAbs : Int)]) := il_append acc [(i.natAbs : Int)]
   rw [e]
   exact comp_abs hs l _ (by simp at hl ⊢; exact (ar (.i (.l (.a N0 (.a N1 K1)) (.k 100)) (.l (.a (.a N0 K1) N1) (.k 100))) 2 [_,_] []) hl) (by simpa using h)
theorem comp_big (hs : same H) : ∀ (l acc : List Int),acc.length + l.length ≤ 100 → k (il (acc ++ l.filter λ i => decide (i ≥ 10 ^ 18))) H →
   mComp (bindT [101] true) ρ (λ ρ' H k => mC call (some (.cmp .ge (.var 101) (.bin .pow (.int 10) (.int 18)))) ρ' H k) (λ ρ' H k => mE call (.var 101) ρ' H k) same (il l) (il acc) H k
 | [],acc,hl,h => by
   refine (?_ : k (il acc) H)
   simpa using h
 | i :: l,acc,hl,h => by
   refine ⟨_,rfl,t_cmp (ev_ok _ (v := .int i) rfl ⟨rfl,rfl,cmpK_of (r := decide (i ≥ 10 ^ 18)) rfl ?_⟩)⟩
   rw [List.filter_cons] at h
   by_cases z : i ≥ 10 ^ 18
   · rw [decide_eq_true z] at h ⊢
     rw [if_pos rfl] at h
     refine ev_ok (.var 101) (v := .int i) rfl ⟨hs,by rw [il_length]; unfold lim; simp at hl; exact (ar (.i (.l (.a N0 (.a N1 K1)) (.k 100)) (.t N0 KM)) 2 [_,_] []) hl, ?_⟩
     have e : il acc ++ [AV.int i] = il (acc ++ [i]) := il_append acc [i]
     rw [e]
     exact comp_big hs l _ (by simp at hl ⊢; exact (ar (.i (.l (.a N0 (.a N1 K1)) (.k 100)) (.l (.a (.a N0 K1) N1) (.k 100))) 2 [_,_] []) hl) (by simpa using h)
   · rw [decide_eq_false z] at h ⊢
     rw [if_neg (by simp)] at h
     exact ⟨hs,comp_big hs l acc (by simp at hl ⊢; exact (ar (.i (.l (.a N0 (.a N1 K1)) (.k 100)) (.l (.a N0 N1) (.k 100))) 2 [_,_] []) hl) h⟩
end
section
variable {call : Nat → Fn → List AV → AHeap → (AV → AHeap → Prop) → Prop} {n : Nat} {H : AHeap} {Q : AV → AHeap → Prop} {d : Dk} {c : Nat}
theorem c_deck (C : Calls call) {s : Addr} {l : List Int} (hs : H s = some (.flist (il l))) (hl : l.length ≤ 63) (h : ∀ d H',Dek H' d 0 → (∀ a o,H a = some o → H' a = some o) → H d.D = none → H d.d0 = none → Q (.ref d.D) H') : call (n + 1) .deck [.ref s] H Q := by
 refine enter C (as := [_]) (b := b_deck) rfl rfl rfl ?_
 have cut : mE (call n) (.slice (.var 0) none (some (.int 20))) (argL [.ref s]) H = λ P => ∀ x,H x = none → P (.ref x) (H.set x (.list (il (l.take 20)))) := by
   funext P
   refine (?_ : (match seqAt H s with | some xs => xs.length ≤ 16000000 ∧ fresh H (.list (cutv xs none (some 20))) P | none => False) = _)
   have e : seqAt H s = some (il l) := by unfold seqAt; rw [hs]
   rw [e]
   refine (?_ : ((il l).length ≤ 16000000 ∧ fresh H (.list ((il l).take 20)) P) = _)
   rw [il_take,il_length]
   exact propext ⟨λ z => z.2,λ z => ⟨by exact (ar (.i (.l N0 (.k 63)) (.l N0 (.k 16000000))) 1 [_] []) hl,z⟩⟩
 have hl20 : (l.take 20).length ≤ 20 := by rw [List.length_take]; exact ar (.l (.i (.k 20) N0) (.k 20)) 1 [_] []
 generalize l.take 20 = m at *
 refine s_assignE ?_
 refine (?_ : mE (call n) (.slice (.var 0) none (some (.int 20))) (argL [.ref s]) H _)
 rw [cut]
 intro x hx
 have k1 := keep_new (o := .list (il m)) hx
 have hx1 : (H.set x (.list (il m))) x = some (.list (il m)) := at_self
 generalize H.set x (.list (il m)) = H1 at *
 simp only [hx1]
 refine comp_abs (acc := []) hx1 m (by simp; exact (ar (.i (.l N0 (.k 20)) (.l N0 (.k 100))) 1 [_] []) hl20) λ y hy => ?_
 have k2 := keep_new (o := .list (il ([] ++ m.map λ i : Int => (i.natAbs : Int)))) hy
 have hy2 : (H1.set y (.list (il ([] ++ m.map λ i : Int => (i.natAbs : Int))))) y = some (.list (il ([] ++ m.map λ i : Int => (i.natAbs : Int)))) := at_self
 have hq : ([] ++ m.map λ i : Int => (i.natAbs : Int)).length ≤ 20 := by simpa using hl20
 generalize ([] ++ m.map λ i : Int => (i.natAbs : Int)) = q at *
 generalize H1.set y (.list (il q)) = H2 at *
 have k02 : ∀ a o,H a = some o → H2 a = some o := λ a o e => k2 _ _ (k1 _ _ e)
 refine s_retE ?_
 refine es_consE (e_comp (l := y) (vs := il q) rfl hy2 (comp_big (acc := []) hy2 q (by simp; exact (ar (.i (.l N0 (.k 20)) (.l N0 (.k 100))) 1 [_] []) hq) λ z hz => ?_))
 have hq2 : ([] ++ q.filter λ i => decide (i ≥ 10 ^ 18)).length ≤ 20 := Nat.le_trans (List.length_filter_le _ _) hq
 generalize ([] ++ q.filter λ i => decide (i ≥ 10 ^ 18)) = r at *
 have k3 := keep_new (o := .list (il r)) hz
 have hz3 : (H2.set z (.list (il r))) z = some (.list (il r)) := at_self
 have hy3 := k3 _ _ hy2
 have nyz : y ≠ z := λ e => by rw [← e,hy2] at hz; exact sn hz
 generalize H2.set z (.list (il r)) = H3 at *
 have k03 : ∀ a o,H a = some o → H3 a = some o := λ a o e => k3 _ _ (k02 _ _ e)
 have hqm : q.length ≤ lim := by unfold lim; exact (ar (.i (.l N0 (.k 20)) (.l N0 KM)) 1 [_] []) hq
 refine es_consE (e_bin (ev_ok _ (v := .ref y) rfl (e_lst (vs := [.int (417 + q.length)]) (v_cons (v_bin rfl (v_ln rfl hy3 (List.length_map _) hqm) rfl) rfl) λ u hu => ?_)))
 have k4 := keep_new (o := .list [.int (417 + (q.length : Int))]) hu
 have hu4 : (H3.set u (.list [.int (417 + (q.length : Int))])) u = some (.list (il [417 + (q.length : Int)])) := at_self
 have hy4 := k4 _ _ hy3
 have hz4 := k4 _ _ hz3
 generalize H3.set u (.list [.int (417 + (q.length : Int))]) = H4 at *
 refine cat_ok hy4 hu4 (by simp; unfold lim; exact (ar (.i (.l N0 (.k 20)) (.l (.a N0 K1) KM)) 1 [_] []) hq) λ v hv => ?_
 rw [il_append]
 have k5 := keep_new (o := .list (il (q ++ [417 + (q.length : Int)]))) hv
 have hv5 : (H4.set v (.list (il (q ++ [417 + (q.length : Int)])))) v = some (.list (il (q ++ [417 + (q.length : Int)]))) := at_self
 have hz5 := k5 _ _ hz4
 have nzv : z ≠ v := λ e => by rw [← e,hz4] at hv; exact sn hv
 generalize H4.set v (.list (il (q ++ [417 + (q.length : Int)]))) = H5 at *
 have k05 : ∀ a o,H a = some o → H5 a = some o := λ a o e => k5 _ _ (k4 _ _ (k03 _ _ e))
 refine es_all (vs := [.int 0]) rfl λ w hw => ?_
 have k6 := keep_new (o := .list [.ref z,.ref v,.int 0]) hw
 have no : ∀ {H' : AHeap} {a : Addr},(∀ a o,H a = some o → H' a = some o) → H' a = none → H a = none := λ {H' a} k e => by
   cases q : H a with
   | none => rfl
   | some o => rw [k _ _ q] at e; exact sn e
 refine h ⟨w,z,v⟩ _ ⟨⟨0,Nat.le_refl _,at_self⟩,⟨r,by exact (ar (.i (.l N0 (.k 20)) (.l N0 (.k 100))) 1 [_] []) hq2,k6 _ _ hz5⟩,⟨_,by simp,by simp; exact (ar (.i (.l N0 (.k 20)) (.l N0 (.k 99))) 1 [_] []) hq,k6 _ _ hv5⟩, ?_, ?_,nzv⟩ (λ a o e => k6 _ _ (k05 _ _ e)) (no k05 hw) (no k02 hz)
 · intro e; have e : w = z := e; rw [e,hz5] at hw; exact sn hw
 · intro e; have e : w = v := e; rw [e,hv5] at hw; exact sn hw
end

end P_C23

section P_C24
open PySem

noncomputable def Keep (x : Addr) (H H' : AHeap) : Prop := ∀ a o,H a = some o → a ≠ x → H' a = some o
noncomputable def Sb (H H' : AHeap) : Prop := ∀ a o,H a = some o → H' a = some o
theorem Sb.no {H H' : AHeap} (s : Sb H H') {a : Addr} (h : H' a = none) : H a = none := by
 cases q : H a with
 | none => rfl
 | some o => rw [s _ _ q] at h; exact sn h
theorem Sb.new {H : AHeap} {x : Addr} {o : AO} (h : H x = none) : Sb H (H.set x o) := keep_new h
theorem Sb.trans {H H' H'' : AHeap} (s : Sb H H') (s' : Sb H' H'') : Sb H H'' := λ a o e => s' _ _ (s _ _ e)
theorem Keep.trans {H H' H'' : AHeap} {x : Addr} (s : Keep x H H') (s' : Keep x H' H'') : Keep x H H'' := λ a o e n => s' _ _ (s _ _ e n) n
theorem Sb.keep {H H' : AHeap} {x : Addr} (s : Sb H H') : Keep x H H' := λ a o e _ => s a o e
theorem Keep.sub {H H' : AHeap} {x : Addr} {o : AO} (hx : H x = none) (k : Keep x (H.set x o) H') : Sb H H' := λ a q e => k a q (keep_new hx a q e) λ z => by rw [z,hx] at e; exact nn e
section
variable {call : Fn → List AV → AHeap → (AV → AHeap → Prop) → Prop} {H : AHeap} {ρ : Locals} {ss : List MS} {Q : SPost}
theorem s_own {a : At} {e : ME} {u : AV} {x d : Addr} {C : Cl} {k : Nat} {F : At → Option AV} (he : Val call ρ H e u) (r0 : ρ 0 = some (.ref x)) (hx : H x = some (.inst C k d F)) (hf : isField C a = true) (hk : k ≤ 900) (hs : F a = none)
   (h : ∀ H',H' x = some (.inst C (k + 1) d (setF F a u)) → Keep x H H' → mSs call ss ρ H' Q) : mSs call (.setAttr (.var 0) a e :: ss) ρ H Q :=
 s_setAttrE (he _ (ev_ok (.var 0) r0 (at_setNew (P := λ H => mSs call ss ρ H Q) hx hf hk hs (h _ at_self λ a o e n => at_other e n))))
noncomputable def ownK (call : Fn → List AV → AHeap → (AV → AHeap → Prop) → Prop) (ρ : Locals) (ss : List MS) (Q : SPost) (a : At) (u : AV) (H₁ : AHeap) : Prop := mE call (.var 0) ρ H₁ λ v H₂ => match v with
   | .ref x => (match H₂ x with | some (.inst C k d F) => isField C a = true ∧ k ≤ 900 ∧ mSs call ss ρ (H₂.set x (.inst C (if (F a).isSome then k else k + 1) d (setF F a u))) Q | _ => False)
   | _ => False
theorem s_ownQ {a : At} {e : ME} (h : mE call e ρ H (ownK call ρ ss Q a)) : mSs call (.setAttr (.var 0) a e :: ss) ρ H Q := h
theorem ownK_of {a : At} {u : AV} {x d : Addr} {C : Cl} {k : Nat} {F : At → Option AV} (r0 : ρ 0 = some (.ref x)) (hx : H x = some (.inst C k d F)) (hf : isField C a = true) (hk : k ≤ 900) (hs : F a = none)
   (h : ∀ H',H' x = some (.inst C (k + 1) d (setF F a u)) → Keep x H H' → mSs call ss ρ H' Q) : ownK call ρ ss Q a u H :=
 ev_ok (.var 0) r0 (at_setNew (P := λ H => mSs call ss ρ H Q) hx hf hk hs (h _ at_self λ a o e n => at_other e n))
end
section
variable {call : Nat → Fn → List AV → AHeap → (AV → AHeap → Prop) → Prop} {n : Nat} {H : AHeap} {Q : AV → AHeap → Prop}
theorem c_marker_init (C : Calls call) {x d : Addr} {num : Int} {adv : Bool} (hx : H x = some (.inst .marker 0 d λ _ => none)) (h : ∀ H',H' x = some (.inst .marker 4 d (mkF ⟨x,d,num,adv,.none,0⟩)) → Keep x H H' → Q .none H') : call (n + 1) .marker_init [.ref x,.int num,.bool adv] H Q := by
 refine enter C (as := [_,_,_]) (b := b_marker_init) rfl rfl rfl ?_
 refine s_own (Val.of (v := .int num) rfl) rfl hx rfl (by decide) rfl λ H1 h1 k1 => ?_
 refine s_own (Val.of (v := .bool adv) rfl) rfl h1 rfl (by decide) rfl λ H2 h2 k2 => ?_
 refine s_own (Val.of (v := .none) rfl) rfl h2 rfl (by decide) rfl λ H3 h3 k3 => ?_
 refine s_own (Val.of (v := .int 0) rfl) rfl h3 rfl (by decide) rfl λ H4 h4 k4 => ?_
 exact h H4 (h4.trans (by congr 2; funext a; cases a <;> rfl)) (k1.trans (k2.trans (k3.trans k4)))
theorem c_mk_init (C : Calls call) {x d : Addr} (hx : H x = some (.inst .markers 0 d λ _ => none)) (h : ∀ H' md,H' x = some (.inst .markers 1 d (setF (λ _ => none) .rows (.ref md))) → H' md = some (.idict []) → H md = none → Keep x H H' → Q .none H') : call (n + 1) .mk_init [.ref x] H Q := by
 refine enter C (as := [_]) (b := b_mk_init) rfl rfl rfl ?_
 refine s_ownQ λ y hy => ?_
 have ny : ∀ {a o},H a = some o → a ≠ y := λ e z => by rw [z,hy] at e; exact nn e
 refine ownK_of (x := x) rfl (at_other hx (ny hx)) rfl (by decide) rfl λ H1 h1 k1 => ?_
 exact h H1 y h1 (k1 _ _ at_self (ny hx).symm) hy ((Sb.new hy).keep.trans k1)
theorem c_ul_init (C : Calls call) {x d : Addr} (hx : H x = some (.inst .undolist 0 d λ _ => none)) (h : ∀ H' ul,H' x = some (.inst .undolist 5 d (ulF { cells := [],gs := 0,ge := 0,pt := 0,zv := 0,tk := 0,ct := 0,sv := 0,ms := [],un := true,ul := ul,rows := [],pb := none,nt := none })) → H' ul = some (.list []) → H ul = none → Keep x H H' → Q .none H') : call (n + 1) .ul_init [.ref x] H Q := by
 refine enter C (as := [_]) (b := b_ul_init) rfl rfl rfl ?_
 refine s_ownQ (e_lst (vs := []) rfl λ y hy => ?_)
 have ny : ∀ {a o},H a = some o → a ≠ y := λ e z => by rw [z,hy] at e; exact nn e
 refine ownK_of (x := x) rfl (at_other hx (ny hx)) rfl (by decide) rfl λ H1 h1 k1 => ?_
 refine s_own (Val.of (v := .int 0) rfl) rfl h1 rfl (by decide) rfl λ H2 h2 k2 => ?_
 refine s_own (Val.of (v := .bool true) rfl) rfl h2 rfl (by decide) rfl λ H3 h3 k3 => ?_
 refine s_own (Val.of (v := .none) rfl) rfl h3 rfl (by decide) rfl λ H4 h4 k4 => ?_
 refine s_own (Val.of (v := .none) rfl) rfl h4 rfl (by decide) rfl λ H5 h5 k5 => ?_
 have kk := k1.trans (k2.trans (k3.trans (k4.trans k5)))
 exact h H5 y (h5.trans (by congr 2; funext a; cases a <;> rfl)) (kk _ _ at_self (ny hx).symm) hy ((Sb.new hy).keep.trans kk)
theorem c_rec_init (C : Calls call) {x d : Addr} (hx : H x = some (.inst .recording 0 d λ _ => none)) (h : ∀ H' u du ul,H' x = some (.inst .recording 1 d (setF (λ _ => none) .list (.ref u))) → H' u = some (.inst .undolist 5 du (ulF { cells := [],gs := 0,ge := 0,pt := 0,zv := 0,tk := 0,ct := 0,sv := 0,ms := [],un := true,ul := ul,rows := [],pb := none,nt := none })) → H' ul = some (.list []) → H u = none → H ul = none → Keep x H H' → Q .none H') : call (n + 2) .rec_init [.ref x] H Q := by
 refine enter C (as := [_]) (b := b_rec_init) rfl rfl rfl ?_
 refine s_ownQ (e_new (C := .undolist) (vs := []) rfl λ u du hu hdu nud => ?_)
 have nu : ∀ {a o},H a = some o → a ≠ u := λ e z => by rw [z,hu] at e; exact nn e
 refine c_ul_init C at_self λ H1 ul h1 hul hul0 k1 => ⟨rfl, ?_⟩
 have s1 : Sb H H1 := k1.sub hu
 have nul : ul ≠ x := λ z => by rw [z,at_other hx (nu hx)] at hul0; exact sn hul0
 refine ownK_of (x := x) rfl (s1 _ _ hx) rfl (by decide) rfl λ H2 h2 k2 => ?_
 exact h H2 u du ul h2 (k2 _ _ h1 (nu hx).symm) (k2 _ _ hul nul) hu ((Sb.new hu).no hul0) (s1.keep.trans k2)
end

end P_C24

section P_C25
open PySem

noncomputable def Sg.zero (un : Bool) (ul : Addr) : Sg := { cells := List.replicate 8 (.int 0),gs := 0,ge := 8,pt := 1,zv := 1,tk := 1,ct := 1,sv := 1,ms := [],un := un,ul := ul,rows := [],pb := none,nt := none }
section
variable {call : Nat → Fn → List AV → AHeap → (AV → AHeap → Prop) → Prop} {n : Nat} {H : AHeap} {Q : AV → AHeap → Prop}
theorem ne_new {a y : Addr} {o : AO} (e : H a = some o) (hy : H y = none) : a ≠ y := λ z => by rw [z,hy] at e; exact nn e
theorem c_gap_init (C : Calls call) {x d cs : Addr} (hx : H x = some (.inst .gap 0 d λ _ => none)) (hc : H cs = some (.list [])) (h : ∀ H' cl,H' x = some (.inst .gap 4 d (setF (setF (setF (setF (λ _ => none) .room (.int 8)) .cells (.ref cl)) .gap_start (.int 0)) .gap_end (.int 8))) →
   H' cl = some (.list (List.replicate 8 (.int 0))) → H cl = none → Keep x H H' → Q .none H') : call (n + 1) .gap_init [.ref x,.ref cs,.int 8] H Q := by
 refine enter C (as := [_,_,_]) (b := b_gap_init) rfl rfl rfl ?_
 refine s_own (Val.of (v := .int 8) rfl) rfl hx rfl (by decide) rfl λ H1 h1 k1 => ?_
 have hc1 := k1 _ _ hc (ne_tag hc hx ff)
 refine s_ownQ (e_bin (e_list (y := cs) (xs := []) (by rfl) hc1 (by decide) λ y hy => ?_))
 refine e_bin (e_lst (vs := [.int 0]) (by rfl) λ z hz => ?_)
 have nyz := ne_new (at_self : (H1.set y (.list [])) y = _) hz
 refine ev_ok (.var 2) (v := .int 8) rfl (rep_ok (v := .int 0) at_self (by decide) (by decide) λ r hr => ?_)
 have hy4 : (((H1.set y (.list [])).set z (.list [.int 0])).set r (.list (List.replicate (8 : Int).toNat (.int 0)))) y = some (.list []) := (Sb.new hr) _ _ ((Sb.new hz) _ _ at_self)
 have hr4 : (((H1.set y (.list [])).set z (.list [.int 0])).set r (.list (List.replicate (8 : Int).toNat (.int 0)))) r = some (.list (List.replicate (8 : Int).toNat (.int 0))) := at_self
 have s4 : Sb H1 (((H1.set y (.list [])).set z (.list [.int 0])).set r (.list (List.replicate (8 : Int).toNat (.int 0)))) := (Sb.new hy).trans ((Sb.new hz).trans (Sb.new hr))
 generalize (((H1.set y (.list [])).set z (.list [.int 0])).set r (.list (List.replicate (8 : Int).toNat (.int 0)))) = H4 at *
 refine cat_ok hy4 hr4 (by decide) λ cl hcl => ?_
 have hcl1 := s4.no hcl
 have e8 : ([] ++ List.replicate (8 : Int).toNat (AV.int 0)) = List.replicate 8 (.int 0) := rfl
 rw [e8]
 refine ownK_of (x := x) rfl ((Sb.new hcl) _ _ (s4 _ _ h1)) rfl (by decide) rfl λ H5 h5 k5 => ?_
 have ncl : cl ≠ x := (ne_new h1 hcl1).symm
 have hcl0 : H cl = none := by
   cases q : H cl with
   | none => rfl
   | some o => rw [k1 _ _ q ncl] at hcl1; exact sn hcl1
 have hcl5 := k5 _ _ at_self ncl
 have k15 : Keep x H1 H5 := (s4.trans (Sb.new hcl)).keep.trans k5
 have hc5 := k15 _ _ hc1 (ne_tag hc hx ff)
 refine s_own (Val.of (v := .int 0) (v_len rfl hc5 (by decide))) rfl h5 rfl (by decide) rfl λ H6 h6 k6 => ?_
 have hc6 := k6 _ _ hc5 (ne_tag hc hx ff)
 refine s_own (Val.of (v := .int 8) (v_bin (v_len rfl hc6 (by decide)) rfl rfl)) rfl h6 rfl (by decide) rfl λ H7 h7 k7 => ?_
 exact h H7 cl h7 (k7 _ _ (k6 _ _ hcl5 ncl) ncl) hcl0 (k1.trans (k15.trans (k6.trans k7)))
theorem c_buf_init (C : Calls call) {x d : Addr} (hx : H x = some (.inst .buffer 0 d λ _ => none)) (h : ∀ H' w,Buf H' w (Sg.zero false x) → w.b = x → Keep x H H' → (∀ a,Ow w (Sg.zero false x) a → a = x ∨ H a = none) → Q .none H') : call (n + 2) .buf_init [.ref x,.int 1,.str .a] H Q := by
 refine enter C (as := [_,_,_,_]) (b := b_buf_init) rfl rfl rfl ?_
 refine s_own (Val.of (v := .int 1) rfl) rfl hx rfl (by decide) rfl λ H1 h1 k1 => ?_
 refine s_own (Val.of (v := .str .a) rfl) rfl h1 rfl (by decide) rfl λ H2 h2 k2 => ?_
 have k02 := k1.trans k2
 have no : ∀ {H' : AHeap} {a : Addr},Keep x H H' → a ≠ x → H' a = none → H a = none := λ {H' a} k m e => by
   cases q : H a with
   | none => rfl
   | some o => rw [k _ _ q m] at e; exact sn e
 refine s_ownQ (e_newE (es_consE (e_lst (vs := []) rfl λ y hy => es_all (vs := [.int 8]) rfl λ g dg hg _ _ => ?_)))
 have s3 := Sb.new (o := .list []) hy
 have hy3 : (H2.set y (.list [])) y = some (.list []) := at_self
 generalize H2.set y (.list []) = H3 at *
 refine c_gap_init C at_self (keep_new hg _ _ hy3) λ H4 cl h4g h4c hc0 k4 => ⟨rfl, ?_⟩
 have s4 : Sb H2 H4 := s3.trans (k4.sub hg)
 have ncg : cl ≠ g := (ne_new at_self hc0).symm
 have ngx := ne_new h2 (s3.no hg)
 have ncx := ne_new h2 (s3.no ((Sb.new hg).no hc0))
 refine ownK_of (x := x) rfl (s4 _ _ h2) rfl (by decide) rfl λ H5 h5 k5 => ?_
 have h5g := k5 _ _ h4g ngx.symm
 have h5c := k5 _ _ h4c ncx.symm
 have k05 : Keep x H H5 := k02.trans (s4.keep.trans k5)
 have g0 : H g = none := no k02 ngx.symm (s3.no hg)
 have c0 : H cl = none := no k02 ncx.symm (s3.no ((Sb.new hg).no hc0))
 refine s_ownQ (e_new (vs := []) rfl λ m dm hm _ _ => ?_)
 refine c_mk_init C at_self λ H6 md h6m h6d hd0 k6 => ⟨rfl, ?_⟩
 have s6 : Sb H5 H6 := k6.sub hm
 have nmx := ne_new h5 hm
 have hd05 := (Sb.new hm).no hd0
 have ndx := ne_new h5 hd05
 refine ownK_of (x := x) rfl (s6 _ _ h5) rfl (by decide) rfl λ H7 h7 k7 => ?_
 have h7g := k7 _ _ (s6 _ _ h5g) ngx.symm
 have h7c := k7 _ _ (s6 _ _ h5c) ncx.symm
 have h7m := k7 _ _ h6m nmx.symm
 have h7d := k7 _ _ h6d ndx.symm
 have k07 : Keep x H H7 := k05.trans (s6.keep.trans k7)
 have d0 : H md = none := no k05 ndx.symm hd05
 refine s_own (Val.of (v := .int 1) rfl) rfl h7 rfl (by decide) rfl λ H8 h8 k8 => ?_
 refine s_own (Val.of (v := .int 1) rfl) rfl h8 rfl (by decide) rfl λ H9 h9 k9 => ?_
 refine s_own (Val.of (v := .int 1) rfl) rfl h9 rfl (by decide) rfl λ H10 h10 k10 => ?_
 refine s_own (Val.of (v := .none) rfl) rfl h10 rfl (by decide) rfl λ H11 h11 k11 => ?_
 refine s_own (Val.of (v := .bool true) rfl) rfl h11 rfl (by decide) rfl λ H12 h12 k12 => ?_
 refine s_own (Val.of (v := .bool false) rfl) rfl h12 rfl (by decide) rfl λ H13 h13 k13 => ?_
 refine s_own (Val.of (v := .int 1) rfl) rfl h13 rfl (by decide) rfl λ H14 h14 k14 => ?_
 refine s_own (Val.of (v := .int 1) rfl) rfl h14 rfl (by decide) rfl λ H15 h15 k15 => ?_
 refine s_own (Val.of (v := .int 1) rfl) rfl h15 rfl (by decide) rfl λ H16 h16 k16 => ?_
 have k716 : Keep x H7 H16 := k8.trans (k9.trans (k10.trans (k11.trans (k12.trans (k13.trans (k14.trans (k15.trans k16)))))))
 refine s_ownQ (e_lst (vs := []) rfl λ ls hl => ?_)
 have nlx := ne_new h16 hl
 have sl := Sb.new (o := .list []) hl
 have hl' : (H16.set ls (.list [])) ls = some (.list []) := at_self
 generalize H16.set ls (.list []) = HL at *
 refine ownK_of (x := x) rfl (sl _ _ h16) rfl (by decide) rfl λ H17 h17 k17 => ?_
 refine s_own (Val.of (v := .none) rfl) rfl h17 rfl (by decide) rfl λ H18 h18 k18 => ?_
 refine s_own (Val.of (v := .none) rfl) rfl h18 rfl (by decide) rfl λ H19 h19 k19 => ?_
 refine s_own (Val.of (v := .none) rfl) rfl h19 rfl (by decide) rfl λ H20 h20 k20 => ?_
 refine s_own (Val.of (v := .none) rfl) rfl h20 rfl (by decide) rfl λ H21 h21 k21 => ?_
 refine s_own (Val.of (v := .none) rfl) rfl h21 rfl (by decide) rfl λ H22 h22 k22 => ?_
 refine s_own (Val.of (v := .none) rfl) rfl h22 rfl (by decide) rfl λ H23 h23 k23 => ?_
 have kL : Keep x HL H23 := k17.trans (k18.trans (k19.trans (k20.trans (k21.trans (k22.trans k23)))))
 have k7L : Keep x H7 H23 := k716.trans (sl.keep.trans kL)
 have l0 : H ls = none := no (k07.trans k716) nlx.symm hl
 refine h H23 ⟨x,d,g,dg,cl,m,dm,md,x,d,x,d,ls⟩ ⟨h23.trans ?_,(k7L _ _ h7g ngx.symm).trans ?_,k7L _ _ h7c ncx.symm,(k7L _ _ h7m nmx.symm).trans ?_,k7L _ _ h7d ndx.symm,kL _ _ hl' nlx.symm,nilm,ft,ft,ft, ?_,ft,.nil⟩ rfl (k07.trans k7L) ?_
 · congr 2; funext a; cases a <;> rfl
 · congr 2; funext a; cases a <;> rfl
 · congr 2; funext a; cases a <;> rfl
 · exact ne_new (k716 _ _ h7c ncx.symm) hl
 · intro a o
   rcases o with o | o | o | o | o | ⟨u,_⟩ | ⟨r,hr,_⟩
   · exact .inl o
   · exact .inr (o ▸ g0)
   · exact .inr (o ▸ c0)
   · exact .inr (o ▸ d0)
   · exact .inr (o ▸ l0)
   · exact ft u
   · cases hr
end

end P_C25

section P_C26
open PySem

section
variable {call : Nat → Fn → List AV → AHeap → (AV → AHeap → Prop) → Prop} {n : Nat} {H H' : AHeap} {w : Wh} {σ σ' : Sg} {Q : AV → AHeap → Prop} {t : List Int}
theorem c_insert0 (C : Calls call) (B : Buf H w σ) (X : Ed σ t) {cs : Addr} (hl : H cs = some (.list [])) (h : Q .none H) : call (n + 6) .insert [.ref w.b,.ref cs] H Q := by
 refine enter C (as := [_,_,_]) (b := b_insert) rfl rfl rfl ?_
 have hb := B.b
 have p1 := X.p1
 have p2 := X.p2
 refine s_expr (e_call (vs := [.ref w.b,.int σ.pt,.ref cs,.bool false,.bool true]) (v_cons rfl (v_cons (v_at rfl hb rfl) rfl)) ?_)
 refine enter C (as := [_,_,_,_,_]) (b := b_put_in) rfl rfl rfl ?_
 refine s_expr (e_call (vs := [.ref w.b]) (by rfl) (c_need_writable C B ?_))
 refine s_expr (e_call (vs := [.ref w.b,.int σ.pt,.int σ.pt]) (by rfl) (c_reached C B (by exact (ar (.i (.L K1 Z0) (.L K1 (.i Z0 Z0))) 1 [] [_]) p1) (by exact (ar (.i (.L Z0 Z1) (.L (.o Z0 Z0) Z1)) 2 [] [_,_]) p2) ?_))
 exact s_iteT (w_cmp (v_len rfl hl (by decide)) rfl rfl) (s_ret0 h)
structure Made (H : AHeap) (w : Wh) (σ : Sg) (l : List Int) (H' : AHeap) : Prop where
 buf : Buf H' w σ
 ed : Ed σ l
 un : σ.un = true
 rows : σ.rows = []
 nt : σ.nt = none
 sv : σ.sv = σ.tk
 ms : σ.ms = []
 ext : ∀ a o,H a = some o → H' a = some o ∧ ¬ Ow w σ a
theorem insT_nil (l : List Int) : insT [] 1 l = l := by simp [insT]
theorem ed_zero {x : Addr} : Ed (Sg.zero false x) [] := ⟨⟨[],List.replicate 8 (.int 0),[],⟨rfl,rfl,rfl,(by decide : 8 ≤ 2000)⟩,rfl⟩,rfl,rfl,(by decide : (1 : Int) ≤ 1),(by decide : (1 : Int) ≤ 1)⟩
theorem Buf.note (B : Buf H w σ) (un : σ.un = false) {F : At → Option AV} {rc drc u du ul : Addr} (e : F = bufF { w with rc := rc,drc := drc,u := u,du := du } { σ with un := true,ul := ul,rows := [],pb := none,nt := none })
   (h1 : H rc = some (.inst .recording 1 drc (recF { w with rc := rc,drc := drc,u := u,du := du }))) (h2 : H u = some (.inst .undolist 5 du (ulF { σ with un := true,ul := ul,rows := [],pb := none,nt := none }))) (h3 : H ul = some (.list [])) (n1 : ul ≠ w.cl) (n2 : ul ≠ w.ls) :
   Buf (H.set w.b (.inst .buffer 20 w.db F)) { w with rc := rc,drc := drc,u := u,du := du } { σ with un := true,ul := ul,rows := [],pb := none,nt := none } := by
 subst e
 exact ⟨at_self,at_other B.g (ne_tag B.g B.b ff),at_other B.cl (ne_tag B.cl B.b ff),at_other B.m (ne_tag B.m B.b ff),at_other B.md (ne_tag B.md B.b ff),at_other B.ls (ne_tag B.ls B.b ff),λ r hr => at_other (B.mks r hr) (ne_tag (B.mks r hr) B.b ff),
   λ _ => at_other h1 (ne_tag h1 B.b ff),λ _ => at_other h2 (ne_tag h2 B.b ff),λ _ => at_other h3 (ne_tag h3 B.b ff),B.n1,λ _ => ⟨n1,n2⟩,B.n3⟩
theorem c_law_buffer (C : Calls call) {cs : Addr} {l : List Int} {p : Int} (hc : H cs = some (.list (il l))) (hl : l.length ≤ 100) (h : ∀ H' w σ,Made H w σ l H' → Q (.ref w.b) H') : call (n + 7) .law_buffer [.ref cs,.int p] H Q := by
 refine enter C (as := [_,_]) (b := b_law_buffer) rfl rfl rfl ?_
 refine s_assignE (e_new (C := .buffer) (vs := [.int 1,.str .a]) rfl λ x d hx _ _ => ?_)
 refine c_buf_init C at_self λ H1 w B1 hw k1 o1 => ⟨rfl, ?_⟩
 have s1 : Sb H H1 := k1.sub hx
 have o1' : ∀ a,Ow w (Sg.zero false x) a → H a = none := λ a o => by
   rcases o1 a o with z | z
   · exact z ▸ hx
   · exact (Sb.new hx).no z
 have hc1 := s1 _ _ hc
 have nc : ¬ Ow w (Sg.zero false x) cs := λ o => by rw [o1' cs o] at hc; exact nn hc
 subst hw
 have fin : ∀ H2 σ,σ.un = false → Ed σ l → σ.ms = [] → Go w (Sg.zero false w.b) H1 σ H2 → mSs (call (n + 6)) [.expr (.meth (.var 2) .goto [(.var 1)]),
 .expr (.meth (.var 2) .set_modified [(.bool false)]),
 .setAttr (.var 2) .undo (.new .recording []),
 .ret (some (.var 2))] (upd (argL [.ref cs,.int p]) 2 (.ref w.b)) H2 (λ mf _ H' => match mf with | .next => Q .none H' | .ret v => Q v H') := by
   intro H2 σ un X2 hms G2
   have hb2 := G2.buf.b
   refine s_expr (e_meth (x := w.b) (by rfl) hb2 rfl rfl (vs := [.int p]) (by rfl) (c_goto C G2.buf λ H3 G3 => ?_))
   have hb3 := G3.buf.b
   refine s_expr (e_meth (x := w.b) (by rfl) hb3 rfl rfl (vs := [.bool false]) (by rfl) (c_set_modified C G3.buf λ H4 G4 => ?_))
   have G := G2.trans (G3.trans G4)
   have p1 := X2.p1
   have p2 := X2.p2
   have X4 : Ed ({ ({ σ with pt := min (max p 1) σ.zv } : Sg) with sv := σ.tk } : Sg) l := ⟨X2.txt.of rfl rfl rfl,X2.zv,X2.ok,by refine (?_ : 1 ≤ min (max p 1) σ.zv); exact (ar (.i (.L K1 Z0) (.i (.L Z0 Z1) (.L K1 (.i (.o Z2 K1) Z1)))) 3 [] [_,_,_]) p1 p2,by refine (?_ : min (max p 1) σ.zv ≤ σ.zv); exact ar (.L (.i (.o Z0 K1) Z1) Z1) 2 [] [_,_]⟩
   have un4 : ({ ({ σ with pt := min (max p 1) σ.zv } : Sg) with sv := σ.tk } : Sg).un = false := un
   have sv4 : ({ ({ σ with pt := min (max p 1) σ.zv } : Sg) with sv := σ.tk } : Sg).sv = ({ ({ σ with pt := min (max p 1) σ.zv } : Sg) with sv := σ.tk } : Sg).tk := rfl
   have ms4 : ({ ({ σ with pt := min (max p 1) σ.zv } : Sg) with sv := σ.tk } : Sg).ms = [] := hms
   have G : Go w (Sg.zero false w.b) H1 ({ ({ σ with pt := min (max p 1) σ.zv } : Sg) with sv := σ.tk } : Sg) H4 := G
   generalize ({ ({ σ with pt := min (max p 1) σ.zv } : Sg) with sv := σ.tk } : Sg) = σ4 at *
   have B4 := G.buf
   refine s_setAttrE (e_new (C := .recording) (vs := []) rfl λ r dr hr _ _ => ?_)
   refine c_rec_init C at_self λ H5 u du ul hr5 hu5 hl5 hu0 hl0 k5 => ⟨rfl, ?_⟩
   have s5 : Sb H4 H5 := k5.sub hr
   have hl4 := (Sb.new hr).no hl0
   have hu4 := (Sb.new hr).no hu0
   refine ev_ok (.var 2) (v := .ref w.b) rfl (at_setOld (P := λ H => mSs (call (n + 6)) [.ret (some (.var 2))] (upd (argL [.ref cs,.int p]) 2 (.ref w.b)) H (λ mf _ H' => match mf with | .next => Q .none H' | .ret v => Q v H')) (s5 _ _ B4.b) rfl (by decide) rfl ?_)
   refine s_ret (v := .ref w.b) rfl ?_
   have B5 := B4.mono s5
   have BR := B5.note un4 (rc := r) (drc := dr) (u := u) (du := du) (ul := ul) (F := setF (bufF w σ4) .undo (.ref r)) (by funext a; cases a <;> rfl) (hr5.trans (by congr 2; funext a; cases a <;> rfl)) (hu5.trans (by congr 2)) hl5 (ne_new B4.cl hl4).symm (ne_new B4.ls hl4).symm
   refine h _ { w with rc := r,drc := dr,u := u,du := du } { σ4 with un := true,ul := ul,rows := [],pb := none,nt := none } ⟨BR,⟨X4.txt.of rfl rfl rfl,X4.zv,X4.ok,X4.p1,X4.p2⟩,rfl,rfl,rfl,sv4,ms4,λ a o e => ?_⟩
   · have na : ¬ Ow w (Sg.zero false w.b) a := λ z => by rw [o1' a z] at e; exact nn e
     obtain ⟨e4,n4⟩ := G.ext a o (s1 _ _ e) na
     refine ⟨at_other (s5 _ _ e4) λ z => n4 (.inl z),λ z => ?_⟩
     rcases z with z | z | z | z | z | ⟨_,z | z⟩ | ⟨r,hr,_⟩
     · exact n4 (.inl z)
     · exact n4 (.inr (.inl z))
     · exact n4 (.inr (.inr (.inl z)))
     · exact n4 (.inr (.inr (.inr (.inl z))))
     · exact n4 (.inr (.inr (.inr (.inr (.inl z)))))
     · exact ne_new e4 hu4 z
     · exact ne_new e4 hl4 z
     · have hr : r ∈ σ4.ms := hr
       rw [ms4] at hr; cases hr
 cases l with
 | nil => exact s_expr (e_call (vs := [.ref w.b,.ref cs]) (by rfl) (c_insert0 C B1 ed_zero hc1 (fin H1 _ rfl ed_zero rfl (Go.refl B1))))
 | cons y l =>
   refine s_expr (e_call (vs := [.ref w.b,.ref cs]) (by rfl) (c_insert C B1 ed_zero hc1 nc (by simp) (by simp at hl ⊢; exact (ar (.i (.l N0 (.k 99)) (.l N0 (.k 999))) 1 [_] []) hl) (λ z => by exact ft z) λ H2 c a e X2 G2 => ?_))
   have X3 : Ed _ (insT [] 1 (y :: l)) := X2
   rw [insT_nil] at X3
   exact fin H2 _ rfl X3 rfl G2
end

end P_C26

section P_C27
open PySem

section
variable {call : Fn → List AV → AHeap → (AV → AHeap → Prop) → Prop} {H : AHeap} {ρ : Locals}
noncomputable def minK (u : AV) (P : AV → AHeap → Prop) (v : AV) (H : AHeap) : Prop := match u,v with
 | .int x,.int y => P (.int (min x y)) H
 | _,_ => False
theorem e_min {a b : ME} {x : Int} {P : AV → AHeap → Prop} (ha : ev H ρ a = some (.int x)) (h : mE call b ρ H (minK (.int x) P)) : mE call (.min a b) ρ H P := by
 refine ev_ok a ha ?_
 exact h
theorem s_setKey {o i e : ME} {x : Addr} {es : List (Int × AV)} {j : Int} {u : AV} {ss : List MS} {Q : SPost} (he : ev H ρ e = some u) (ho : ev H ρ o = some (.ref x)) (hi : ev H ρ i = some (.int j)) (hx : H x = some (.idict es)) (hl : es.length ≤ 900)
   (h : mSs call ss ρ (H.set x (.idict (putKey es j u))) Q) : mSs call (.setIdx o i e :: ss) ρ H Q := by
 refine ev_ok e he (ev_ok o ho (ev_ok i hi ?_))
 refine (?_ : (match H x with
     | some (.list xs) => xs.length ≤ lim ∧ (if 0 ≤ j then j < xs.length ∧ mSs call ss ρ (H.set x (.list (xs.set j.toNat u))) Q else 0 ≤ j + xs.length ∧ mSs call ss ρ (H.set x (.list (xs.set (j + xs.length).toNat u))) Q)
     | some (.idict es) => es.length ≤ 900 ∧ mSs call ss ρ (H.set x (.idict (putKey es j u))) Q
     | _ => False))
 rw [hx]
 exact ⟨hl,h⟩
end
section
variable {call : Nat → Fn → List AV → AHeap → (AV → AHeap → Prop) → Prop} {n : Nat} {H H' : AHeap} {w : Wh} {σ σ' : Sg} {Q : AV → AHeap → Prop} {t : List Int}
theorem put_new {l : List Mk} {r : Mk} (h : ∀ q ∈ l,q.num ≠ r.num) : putKey (dictOfMs l) r.num (.ref r.k) = dictOfMs (l ++ [r]) := by
 unfold putKey
 rw [if_neg]
 · simp [dictOfMs]
 · simp only [dictOfMs,List.any_map,List.any_eq_true,not_exists]
   intro q hq
   exact h q hq.1 (of_decide_eq_true hq.2)
structure Put (w : Wh) (k : Addr) (σ : Sg) (H : AHeap) (σ' : Sg) (H' : AHeap) : Prop where
 buf : Buf H' w σ'
 ext : ∀ a o,H a = some o → ¬ Ow w σ a → a ≠ k → H' a = some o ∧ ¬ Ow w σ' a
theorem Buf.put (B : Buf H w σ) {r : Mk} (hr : H r.k = some (.inst .marker 4 r.dk (mkF r))) (nr : ∀ q ∈ σ.ms,q.num ≠ r.num) (nk : ∀ q ∈ σ.ms,q.k ≠ r.k) : Buf (H.set w.md (.idict (dictOfMs (σ.ms ++ [r])))) w { σ with ms := σ.ms ++ [r] } := by
 refine ⟨at_other B.b (ne_tag B.b B.md ff),at_other B.g (ne_tag B.g B.md ff),at_other B.cl (ne_tag B.cl B.md ff),at_other B.m (ne_tag B.m B.md ff),at_self,at_other B.ls (ne_tag B.ls B.md ff),λ q hq => ?_,
   λ u => at_other (B.rc u) (ne_tag (B.rc u) B.md ff),λ u => at_other (B.u u) (ne_tag (B.u u) B.md ff),λ u => at_other (B.ul u) (ne_tag (B.ul u) B.md ff),B.n1,B.n2, ?_⟩
 · have hq : q ∈ σ.ms ++ [r] := hq
   rcases List.mem_append.mp hq with h | h
   · exact at_other (B.mks q h) (ne_tag (B.mks q h) B.md ff)
   · cases List.mem_singleton.mp h
     exact at_other hr (ne_tag hr B.md ff)
 · refine (?_ : (σ.ms ++ [r]).Pairwise _)
   rw [List.pairwise_append]
   exact ⟨B.n3,by simp,λ x hx y hy => by cases List.mem_singleton.mp hy; exact nk x hx⟩
theorem c_set_marker (C : Calls call) (B : Buf H w σ) (X : Txt σ t) {r : Mk} (hr : H r.k = some (.inst .marker 4 r.dk (mkF r))) (hb : r.buf = .none) (nk : ¬ Ow w σ r.k) (nn : ∀ q ∈ σ.ms,q.num ≠ r.num) (h2 : σ.ms.length ≤ 2) {p : Int}
   (h : ∀ H',Put w r.k σ H { σ with ms := σ.ms ++ [{ r with buf := .ref w.b,pos := min (max p 1) (t.length + 1) }] } H' → Q .none H') : call (n + 4) .set_marker [.ref r.k,.ref w.b,.int p] H Q := by
 refine enter C (as := [_,_,_]) (b := b_set_marker) rfl rfl rfl ?_
 have B0 := B.b
 refine s_skip (by simp [hr,hb]) ?_
 refine s_setAttr (x := r.k) (u := .ref w.b) (by rfl) (by rfl) hr rfl (by decide) rfl ?_
 have eF : setF (mkF r) .buffer (.ref w.b) = mkF { r with buf := .ref w.b } := by funext a; cases a <;> rfl
 rw [eF]
 have B1 := B.pokeO (o' := .inst .marker 4 r.dk (mkF { r with buf := .ref w.b })) hr ff ff nk
 have hr1 : (H.set r.k (.inst .marker 4 r.dk (mkF { r with buf := .ref w.b }))) r.k = some (.inst .marker 4 r.dk (mkF { r with buf := .ref w.b })) := at_self
 have k1 : Keep r.k H (H.set r.k (.inst .marker 4 r.dk (mkF { r with buf := .ref w.b }))) := λ a o e n => at_other e n
 generalize H.set r.k (.inst .marker 4 r.dk (mkF { r with buf := .ref w.b })) = H1 at *
 have hb1 := B1.b
 have hm1 := B1.m
 refine s_iteF (by rfl) ?_
 refine s_expr (e_methE (x := w.m) (v_at rfl hb1 rfl) hm1 rfl rfl (es_cons (v := .ref r.k) rfl (es_consE ?_)))
 have hg1 := B1.g
 refine e_min (x := max p 1) (by rfl) ?_
 refine e_bin (e_meth (x := w.b) (by rfl) hb1 rfl rfl (vs := []) rfl (c_size C B1 (lim_of X.sz) ?_))
 rw [X.len]
 refine ev_ok (.int 1) rfl ?_
 refine (?_ : call (n + 3) .mk_put [.ref w.m,.ref r.k,.int (min (max p 1) (t.length + 1))] H1 _)
 generalize min (max p 1) ((t.length : Int) + 1) = q at *
 refine enter C (as := [_,_,_]) (b := b_mk_put) rfl rfl rfl ?_
 refine s_setKey (x := w.md) (u := .ref r.k) (j := r.num) (es := dictOfMs σ.ms) rfl (v_at rfl hm1 rfl) (v_at rfl hr1 rfl) B1.md (by simp [dictOfMs]; exact (ar (.i (.l N0 K2) (.l N0 (.k 900))) 1 [_] []) h2) ?_
 rw [put_new nn]
 have B2 := B1.put (r := { r with buf := .ref w.b }) hr1 nn λ q hq z => nk (.inr (.inr (.inr (.inr (.inr (.inr ⟨q,hq,z.symm⟩))))))
 have hr2 : (H1.set w.md (.idict (dictOfMs (σ.ms ++ [r])))) r.k = _ := at_other hr1 (ne_tag hr1 B1.md ff)
 have k2 : Keep w.md H1 (H1.set w.md (.idict (dictOfMs (σ.ms ++ [r])))) := λ a o e n => at_other e n
 have B2 : Buf (H1.set w.md (.idict (dictOfMs (σ.ms ++ [r])))) w { σ with ms := σ.ms ++ [{ r with buf := .ref w.b }] } := by
   have e : dictOfMs (σ.ms ++ [({ r with buf := .ref w.b } : Mk)]) = dictOfMs (σ.ms ++ [r]) := by simp [dictOfMs]
   rw [← e]; exact B2
 generalize H1.set w.md (.idict (dictOfMs (σ.ms ++ [r]))) = H2 at *
 refine s_setAttr (x := r.k) (u := .int q) (by rfl) (by rfl) hr2 rfl (by decide) rfl ?_
 have G := B2.pos (l₁ := σ.ms) (l₂ := []) (r := { r with buf := .ref w.b }) rfl q
 refine h _ ⟨G.buf,λ a o e n m => ?_⟩
 have e1 := k1 _ _ e m
 have e2 := k2 _ _ e1 (λ z => n (.inr (.inr (.inr (.inl z)))))
 refine ⟨at_other e2 m,λ z => ?_⟩
 rcases z with z | z | z | z | z | z | ⟨x,hx,z⟩
 · exact n (.inl z)
 · exact n (.inr (.inl z))
 · exact n (.inr (.inr (.inl z)))
 · exact n (.inr (.inr (.inr (.inl z))))
 · exact n (.inr (.inr (.inr (.inr (.inl z)))))
 · exact n (.inr (.inr (.inr (.inr (.inr (.inl z))))))
 · have hx : x ∈ σ.ms ++ [{ r with buf := .ref w.b,pos := q }] := hx
   rcases List.mem_append.mp hx with h | h
   · exact n (.inr (.inr (.inr (.inr (.inr (.inr ⟨x,h,z⟩))))))
   · cases List.mem_singleton.mp h; exact m z
end

end P_C27

section P_C28
open PySem

structure Lw (w : Wh) (d : Dk) (σ : Sg) (H F G : AHeap) (c : Nat) : Prop where
 buf : Buf H w σ
 dek : Dek H d c
 o1 : ¬ Ow w σ d.D
 o2 : ¬ Ow w σ d.d0
 o3 : ¬ Ow w σ d.d1
 kept : ∀ a o,F a = some o ∨ G a = some o → H a = some o ∧ ¬ Ow w σ a ∧ a ≠ d.D ∧ a ≠ d.d0 ∧ a ≠ d.d1
 dis : ∀ a o,F a = some o → G a = none
noncomputable def PF (F : AHeap) (a : Addr) (l : List Int) : Prop := ∃ d c r,F a = some (.inst .piece 2 d (pcF c r)) ∧ F c = some (.list (il l)) ∧ F r = some (.list [])
noncomputable def poss (ms : List Mk) : List AV := ms.map λ r => .int r.pos
section
variable {call : Nat → Fn → List AV → AHeap → (AV → AHeap → Prop) → Prop} {n : Nat} {H H' F F' G : AHeap} {w : Wh} {d : Dk} {σ σ' : Sg} {Q : AV → AHeap → Prop} {t : List Int} {c : Nat}
theorem PF.sub {a : Addr} {l : List Int} (p : PF F a l) (s : Sb F F') : PF F' a l := by
 obtain ⟨d,c,r,h1,h2,h3⟩ := p
 exact ⟨d,c,r,s _ _ h1,s _ _ h2,s _ _ h3⟩
theorem Lw.le (L : Lw w d σ H F G c) {c' : Nat} (h : c ≤ c') : Lw w d σ H F G c' := by
 obtain ⟨k,hk,e⟩ := L.dek.D
 exact ⟨L.buf,⟨⟨k,Nat.le_trans hk h,e⟩,L.dek.d0,L.dek.d1,L.dek.n1,L.dek.n2,L.dek.n3⟩,L.o1,L.o2,L.o3,L.kept,L.dis⟩
theorem Dek.keep (X : Dek H d c) (k : ∀ a o,H a = some o → a = d.D ∨ a = d.d0 ∨ a = d.d1 → H' a = some o) : Dek H' d c := by
 obtain ⟨a,ha,ea⟩ := X.D
 obtain ⟨b,hb,eb⟩ := X.d0
 obtain ⟨e,he,he',ee⟩ := X.d1
 exact ⟨⟨a,ha,k _ _ ea (.inl rfl)⟩,⟨b,hb,k _ _ eb (.inr (.inl rfl))⟩,⟨e,he,he',k _ _ ee (.inr (.inr rfl))⟩,X.n1,X.n2,X.n3⟩
theorem Dek.live (X : Dek H d c) : (∃ l,H d.D = some (.list l)) ∧ (∃ l,H d.d0 = some (.list l)) ∧ ∃ l,H d.d1 = some (.list l) := by
 obtain ⟨a,ha,ea⟩ := X.D
 obtain ⟨b,hb,eb⟩ := X.d0
 obtain ⟨e,he,he',ee⟩ := X.d1
 exact ⟨⟨_,ea⟩,⟨_,eb⟩,⟨_,ee⟩⟩
theorem Lw.go (L : Lw w d σ H F G c) (Y : Go w σ H σ' H') : Lw w d σ' H' F G c := by
 obtain ⟨⟨l1,e1⟩,⟨l2,e2⟩,⟨l3,e3⟩⟩ := L.dek.live
 refine ⟨Y.buf,L.dek.keep λ a o e h => ?_,(Y.ext _ _ e1 L.o1).2,(Y.ext _ _ e2 L.o2).2,(Y.ext _ _ e3 L.o3).2,λ a o e => ?_,L.dis⟩
 · rcases h with rfl | rfl | rfl
   · exact (Y.ext _ _ e L.o1).1
   · exact (Y.ext _ _ e L.o2).1
   · exact (Y.ext _ _ e L.o3).1
 · obtain ⟨a1,a2,a3⟩ := L.kept a o e
   exact ⟨(Y.ext _ _ a1 a2).1,(Y.ext _ _ a1 a2).2,a3⟩
theorem Lw.dx (L : Lw w d σ H F G c) {c' : Nat} (X : Dek H' d c') (k : Dx d H H') : Lw w d σ H' F G c' := by
 obtain ⟨⟨l1,e1⟩,⟨l2,e2⟩,⟨l3,e3⟩⟩ := L.dek.live
 have B := L.buf
 have ow : ∀ {a o},H a = some o → Ow w σ a → H' a = some o := λ {a o} e h => k a o e (λ z => L.o1 (z ▸ h)) λ z => L.o2 (z ▸ h)
 refine ⟨⟨ow B.b (.inl rfl),ow B.g (.inr (.inl rfl)),ow B.cl (.inr (.inr (.inl rfl))),k _ _ B.m (ne_tag B.m e1 ff) (ne_tag B.m e2 ff),ow B.md (.inr (.inr (.inr (.inl rfl)))),ow B.ls (.inr (.inr (.inr (.inr (.inl rfl))))),λ r hr => ow (B.mks r hr) (.inr (.inr (.inr (.inr (.inr (.inr ⟨r,hr,rfl⟩)))))),
   λ u => k _ _ (B.rc u) (ne_tag (B.rc u) e1 ff) (ne_tag (B.rc u) e2 ff),λ u => ow (B.u u) (.inr (.inr (.inr (.inr (.inr (.inl ⟨u,.inl rfl⟩)))))),λ u => ow (B.ul u) (.inr (.inr (.inr (.inr (.inr (.inl ⟨u,.inr rfl⟩)))))),B.n1,B.n2,B.n3⟩,X,L.o1,L.o2,L.o3,λ a o e => ?_,L.dis⟩
 obtain ⟨a1,a2,a3,a4,a5⟩ := L.kept a o e
 exact ⟨k _ _ a1 a3 a4,a2,a3,a4,a5⟩
theorem Lw.fresh (L : Lw w d σ H F G c) {x : Addr} (hx : H x = none) : F x = none ∧ G x = none ∧ x ≠ d.D ∧ x ≠ d.d0 ∧ x ≠ d.d1 := by
 obtain ⟨⟨l1,e1⟩,⟨l2,e2⟩,⟨l3,e3⟩⟩ := L.dek.live
 refine ⟨?_, ?_,(ne_new e1 hx).symm,(ne_new e2 hx).symm,(ne_new e3 hx).symm⟩
 · cases q : F x with
   | none => rfl
   | some y => rw [(L.kept _ _ (.inl q)).1] at hx; exact sn hx
 · cases q : G x with
   | none => rfl
   | some y => rw [(L.kept _ _ (.inr q)).1] at hx; exact sn hx
theorem Lw.add (L : Lw w d σ H F G c) (L' : Lw w d σ' H' F G c) {x : Addr} {o : AO} (h0 : H x = none) (hx : H' x = some o) (nx : ¬ Ow w σ' x) : Lw w d σ' H' (F.set x o) G c ∧ Sb F (F.set x o) := by
 obtain ⟨f0,g0,n⟩ := L.fresh h0
 refine ⟨⟨L'.buf,L'.dek,L'.o1,L'.o2,L'.o3,λ a q e => ?_,λ a q e => ?_⟩,Sb.new f0⟩
 · by_cases z : a = x
   · subst z
     rcases e with e | e
     · have e : some o = some q := (if_pos rfl : (F.set a o) a = some o).symm.trans e
       exact ⟨hx.trans e,nx,n⟩
     · rw [g0] at e; exact nn e
   · exact L'.kept a q (e.imp (λ e => (if_neg z : (F.set x o) a = F a).symm.trans e) λ e => e)
 · by_cases z : a = x
   · exact z ▸ g0
   · exact L'.dis a q ((if_neg z : (F.set x o) a = F a).symm.trans e)
theorem Lw.mono (L : Lw w d σ H F G c) (s : Sb H H') : Lw w d σ H' F G c := ⟨L.buf.mono s,L.dek.keep λ a o e _ => s _ _ e,L.o1,L.o2,L.o3,λ a o e => ⟨s _ _ (L.kept a o e).1,(L.kept a o e).2⟩,L.dis⟩
theorem Lw.new (L : Lw w d σ H F G c) {x : Addr} {o : AO} (hx : H x = none) : Lw w d σ (H.set x o) (F.set x o) G c ∧ Sb F (F.set x o) := L.add (L.mono (Sb.new hx)) hx at_self (L.buf.new hx)
theorem Lw.own (L : Lw w d σ H F G c) {x : Addr} {o : AO} (hx : H x = none) : Lw w d σ (H.set x o) F (G.set x o) c ∧ Sb G (G.set x o) := by
 obtain ⟨f0,g0,n⟩ := L.fresh hx
 have L' := L.mono (Sb.new (o := o) hx)
 refine ⟨⟨L'.buf,L'.dek,L'.o1,L'.o2,L'.o3,λ a q e => ?_,λ a q e => ?_⟩,Sb.new g0⟩
 · by_cases z : a = x
   · subst z
     rcases e with e | e
     · rw [f0] at e; exact nn e
     · have e : some o = some q := (if_pos rfl : (G.set a o) a = some o).symm.trans e
       exact ⟨(if_pos rfl : (H.set a o) a = some o).trans e,L.buf.new hx,n⟩
   · exact L'.kept a q (e.imp (λ e => e) λ e => (if_neg z : (G.set x o) a = G a).symm.trans e)
 · by_cases z : a = x
   · subst z; rw [f0] at e; exact nn e
   · exact (if_neg z).trans (L.dis a q e)
theorem Lw.poke (L : Lw w d σ H F G c) {x : Addr} {l l' : List AV} (hx : G x = some (.list l)) : Lw w d σ (H.set x (.list l')) F (G.set x (.list l')) c := by
 obtain ⟨x1,x2,x3,x4,x5⟩ := L.kept x _ (.inr hx)
 refine ⟨L.buf.poke x1 x2,L.dek.keep λ a o e h => at_other e ?_,L.o1,L.o2,L.o3,λ a q e => ?_,λ a q e => ?_⟩
 · rcases h with rfl | rfl | rfl
   · exact x3.symm
   · exact x4.symm
   · exact x5.symm
 · by_cases z : a = x
   · subst z
     rcases e with e | e
     · rw [L.dis _ _ e] at hx; exact nn hx
     · have e : some (AO.list l') = some q := (if_pos rfl : (G.set a (.list l')) a = some (.list l')).symm.trans e
       exact ⟨(if_pos rfl : (H.set a (.list l')) a = some (.list l')).trans e,x2,x3,x4,x5⟩
   · obtain ⟨a1,a2⟩ := L.kept a q (e.imp (λ e => e) λ e => (if_neg z : (G.set x (.list l')) a = G a).symm.trans e)
     exact ⟨at_other a1 z,a2⟩
 · refine (if_neg λ z => ?_).trans (L.dis a q e)
   rw [← z,L.dis _ _ e] at hx; exact nn hx
theorem Lw.piece (L : Lw w d σ H F G c) (L' : Lw w d σ' H' F G c) {a : Addr} {l : List Int} (p : PcF H w σ' H' a l) : ∃ F',Sb F F' ∧ Lw w d σ' H' F' G c ∧ PF F' a l := by
 obtain ⟨dd,cs,r,h1,h2,h3,n1,n2,n3,f1,f2,f3⟩ := p.ex
 have fr : ∀ {x},x = a ∨ x = cs ∨ x = r → H x = none := λ z => by rcases z with rfl | rfl | rfl <;> assumption
 refine ⟨λ x => if x = a ∨ x = cs ∨ x = r then H' x else F x,λ x o e => ?_,⟨L'.buf,L'.dek,L'.o1,L'.o2,L'.o3,λ x o e => ?_,λ x o e => ?_⟩,dd,cs,r, ?_, ?_, ?_⟩
 · refine (if_neg λ z => ?_).trans e
   rw [(L.fresh (fr z)).1] at e; exact nn e
 · by_cases z : x = a ∨ x = cs ∨ x = r
   · rcases e with e | e
     · have e : H' x = some o := (if_pos z).symm.trans e
       exact ⟨e,by rcases z with rfl | rfl | rfl <;> assumption,(L.fresh (fr z)).2.2⟩
     · rw [(L.fresh (fr z)).2.1] at e; exact nn e
   · exact L'.kept x o (e.imp (λ e => (if_neg z).symm.trans e) λ e => e)
 · by_cases z : x = a ∨ x = cs ∨ x = r
   · exact (L.fresh (fr z)).2.1
   · exact L'.dis x o ((if_neg z).symm.trans e)
 · exact (if_pos (.inl rfl)).trans h1
 · exact (if_pos (.inr (.inl rfl))).trans h2
 · exact (if_pos (.inr (.inr rfl))).trans h3
theorem Lw.pcN (L : Lw w d σ H F G c) {a : Addr} {l : List Int} (p : PF F a l) : PcN w σ H a l := by
 obtain ⟨dd,cs,r,h1,h2,h3⟩ := p
 exact ⟨dd,cs,r,(L.kept _ _ (.inl h1)).1,(L.kept _ _ (.inl h2)).1,(L.kept _ _ (.inl h3)).1,(L.kept _ _ (.inl h1)).2.1,(L.kept _ _ (.inl h2)).2.1,(L.kept _ _ (.inl h3)).2.1⟩
theorem l_draw (C : Calls call) (L : Lw w d σ H F G c) {many : Int} (h1 : 0 < many) (h2 : many < 1000) (hc : c < 1000000) (h : ∀ v H',0 ≤ v → v < many → Lw w d σ H' F G (c + 1) → Q (.int v) H') : call (n + 1) .draw [.ref d.D,.int many] H Q :=
 c_draw C L.dek h1 h2 hc λ v H' a b X k => h v H' a b (L.dx X k)
theorem pos_comp {call : Fn → List AV → AHeap → (AV → AHeap → Prop) → Prop} {ρ : Locals} {same : AHeap → Prop} {k : List AV → AHeap → Prop} (hs : same H) : ∀ (l : List Mk) (acc : List AV),(∀ r ∈ l,H r.k = some (.inst .marker 4 r.dk (mkF r))) → acc.length + l.length ≤ 100 → k (acc ++ poss l) H →
   mComp (bindT [101] true) ρ (λ ρ' H k => mC call Option.none ρ' H k) (λ ρ' H k => mE call (.attr (.var 101) .position) ρ' H k) same (refs l) acc H k
 | [],acc,hm,hl,h => by
   refine (?_ : k acc H)
   simpa [poss] using h
 | r :: l,acc,hm,hl,h => by
   refine ⟨_,rfl, ?_⟩
   refine (?_ : mE call _ (upd ρ 101 (.ref r.k)) H _)
   have hr := hm r (.head _)
   refine ev_ok _ (v := .int r.pos) (v_at rfl hr rfl) ⟨hs,by unfold lim; simp at hl; exact (ar (.i (.l (.a N0 (.a N1 K1)) (.k 100)) (.t N0 KM)) 2 [_,_] []) hl,pos_comp hs l _ (λ q hq => hm q (.tail _ hq)) (by simp at hl ⊢; exact (ar (.i (.l (.a N0 (.a N1 K1)) (.k 100)) (.l (.a (.a N0 K1) N1) (.k 100))) 2 [_,_] []) hl) ?_⟩
   simpa [poss] using h
theorem c_law_state (C : Calls call) (L : Lw w d σ H F G c) (X : Ed σ t) {M : Addr} (hM : F M = some (.list (refs σ.ms)))
   (h : ∀ H' F' x y,Lw w d σ H' F' G c → Sb F F' → F' x = some (.list (il t)) → F' y = some (.list (poss σ.ms)) → Q (.tup [.ref x,.ref y]) H') : call (n + 5) .law_state [.ref w.b,.ref M] H Q := by
 refine enter C (as := [_,_]) (b := b_law_state) rfl rfl rfl ?_
 have B := L.buf
 have hb := B.b
 have hsz := lim_of X.txt.sz
 refine s_retE (es_consE (e_methE (x := w.b) (by rfl) hb rfl rfl (es_cons (v := .int 1) (by rfl) (es_consE ?_))))
 refine e_bin (e_meth (x := w.b) (by rfl) hb rfl rfl (vs := []) rfl (c_size C B hsz ?_))
 rw [X.txt.len]
 refine ev_ok (.int 1) rfl ?_
 refine (?_ : call (n + 4) .buf_codes [.ref w.b,.int 1,.int (t.length + 1)] H _)
 refine c_codes C B X.txt (by exact ar (.L K1 K1) 0 [] []) (by exact ar (.L K1 (.a (.u N0) K1)) 1 [_] []) (by exact ar (.L (.a (.u N0) K1) (.a (.u N0) K1)) 1 [_] []) λ x H1 hx Y hx1 nx => ?_
 have ex : ((t.take ((t.length : Int) + 1 - 1).toNat).drop (1 - 1 : Int).toNat) = t := by
   rw [show ((t.length : Int) + 1 - 1).toNat = t.length by exact ar (.e (.t (.s (.a (.u N0) K1) K1)) N0) 1 [_] [],List.take_of_length_le (Nat.le_refl _)]; rfl
 rw [ex] at hx1
 obtain ⟨L1,s1⟩ := L.add (L.go Y) hx hx1 nx
 have fx1 : (F.set x (.list (il t))) x = some (.list (il t)) := at_self
 have fM1 := s1 _ _ hM
 generalize F.set x (.list (il t)) = F1 at *
 have hM1 := (L1.kept _ _ (.inl fM1)).1
 refine es_consE (e_comp (l := M) (vs := refs σ.ms) rfl hM1 (pos_comp (acc := []) hM1 σ.ms (λ r hr => L1.buf.mks r hr) (by have := ms_le2 X.ok; simp; exact (ar (.i (.l N0 K2) (.l N0 (.k 100))) 1 [_] []) this) λ y hy => ?_))
 obtain ⟨L2,s2⟩ := L1.new (o := .list ([] ++ poss σ.ms)) hy
 exact h _ _ x y L2 (s1.trans s2) (s2 _ _ fx1) at_self
end

end P_C28

section P_C29
open PySem

structure Cm (F : AHeap) (σ : Sg) (t : List Int) (g : Gr) (σ' : Sg) (t' : List Int) : Prop where
 ed : Ed σ' t'
 rel : g.rel ⟨t,σ.ms⟩ ⟨t',σ'.ms⟩
 rows : σ'.rows = σ.rows ++ g.rows
 pc : ∀ p,g.pc = some p → PF F p.1 p.2
 um : g.um = umOf σ
 kp : Kp σ σ'
 sv : σ'.sv = σ.sv
section
variable {call : Fn → List AV → AHeap → (AV → AHeap → Prop) → Prop} {H : AHeap} {ρ : Locals}
theorem s_assignNE {xs : List Nat} {es : List ME} {ss : List MS} {Q : SPost} (h : mEs call es ρ H λ vs H' => xs.length = vs.length ∧ mSs call ss (upds ρ xs vs) H' Q) : mSs call (.assignN xs es :: ss) ρ H Q := h
theorem rng_comp {k : List AV → AHeap → Prop} {fresh : Int} (h2 : ρ 2 = some (.int fresh)) : ∀ (l : List Nat) (acc : List Int),acc.length + l.length ≤ 100 → (∀ m : List Int,m.length = acc.length + l.length → k (il m) H) →
   mComp (bindT [101] true) ρ (λ _ H k => k true H) (λ ρ' H k => mE call (.bin .add (.var 2) (.var 101)) ρ' H k) (λ _ => True) (l.map λ (i : Nat) => .int (i : Int)) (il acc) H k
 | [],acc,hl,h => h acc rfl
 | i :: l,acc,hl,h => by
   refine ⟨_,rfl, ?_⟩
   refine (?_ : mE call _ (upd ρ 101 (.int (i : Int))) H _)
   refine ev_ok _ (v := .int (fresh + i)) (by simp [h2]) ⟨trivial,by rw [il_length]; unfold lim; simp at hl; exact (ar (.i (.l (.a N0 (.a N1 K1)) (.k 100)) (.t N0 KM)) 2 [_,_] []) hl, ?_⟩
   have e : il acc ++ [AV.int (fresh + i)] = il (acc ++ [fresh + (i : Int)]) := il_append acc [fresh + (i : Int)]
   rw [e]
   exact rng_comp h2 l _ (by simp at hl ⊢; exact (ar (.i (.l (.a N0 (.a N1 K1)) (.k 100)) (.l (.a (.a N0 K1) N1) (.k 100))) 2 [_,_] []) hl) λ m hm => h m (by simp at hm ⊢; exact (ar (.i (.e N0 (.a (.a N1 K1) N2)) (.e N0 (.a N1 (.a N2 K1)))) 3 [_,_,_] []) hm)
noncomputable def rngK (call : Fn → List AV → AHeap → (AV → AHeap → Prop) → Prop) (ρ : Locals) (x : Nat) (elt : ME) (P : AV → AHeap → Prop) (u : AV) (H₁ : AHeap) : Prop := match u with
   | .int n => 0 ≤ n ∧ n ≤ lim ∧ mComp (bindT [x] true) ρ (λ _ H k => k true H) (λ ρ' H k => mE call elt ρ' H k) (λ _ => True) ((List.range n.toNat).map λ (i : Nat) => .int (i : Int)) [] H₁ λ ys H₂ => fresh H₂ (.list ys) P
   | _ => False
theorem e_rng {x : Nat} {n elt : ME} {P : AV → AHeap → Prop} (h : mE call n ρ H (rngK call ρ x elt P)) : mE call (.compRange x n elt) ρ H P := h
theorem rngK_of {fresh : Int} (h2 : ρ 2 = some (.int fresh)) {P : AV → AHeap → Prop} {v : Int} (h0 : 1 ≤ v) (hv : v ≤ 100) (h : ∀ m : List Int,(m.length : Int) = v → ∀ x,H x = none → P (.ref x) (H.set x (.list (il m)))) : rngK call ρ 101 (.bin .add (.var 2) (.var 101)) P (.int v) H :=
 ⟨by exact (ar (.i (.L K1 Z0) (.L K0 Z0)) 1 [] [_]) h0,by unfold lim; exact (ar (.i (.L Z0 (.k 100)) (.L Z0 (.u KM))) 1 [] [_]) hv,rng_comp h2 _ [] (by simp; exact (ar (.i (.L Z0 (.k 100)) (.L Z0 (.k 100))) 1 [] [_]) hv) λ m hm => h m (by simp at hm; exact (ar (.i (.e N0 (.t Z0)) (.i (.L K1 Z0) (.E (.u N0) Z0))) 1 [_] [_]) hm h0)⟩
end
section
variable {call : Nat → Fn → List AV → AHeap → (AV → AHeap → Prop) → Prop} {n : Nat} {H H' F F' G : AHeap} {w : Wh} {d : Dk} {σ σ' : Sg} {Q : AV → AHeap → Prop} {t : List Int} {c : Nat}
theorem Cd.cm {g : Gr} {t' : List Int} (L : Lw w d σ H F G c) (x : Cd w H σ t g σ' t' H') : ∃ F',Sb F F' ∧ Lw w d σ' H' F' G c ∧ Cm F' σ t g σ' t' := by
 have L' := L.go x.go
 cases e : g.pc with
 | none => exact ⟨F,λ _ _ e => e,L',x.ed,x.rel,x.rows,λ p z => (by rw [e] at z; exact nn z),x.um,x.kp,x.sv⟩
 | some p =>
   obtain ⟨F',s,L2,pf⟩ := L.piece L' (x.pc p e)
   exact ⟨F',s,L2,x.ed,x.rel,x.rows,λ q z => (by rw [e] at z; cases z; exact pf),x.um,x.kp,x.sv⟩
theorem back_pt {g : Gd} {p z : Int} {e : Int} (h1 : 1 ≤ p) (h2 : p ≤ z) (hp : g.pn = pnOf true (some p) g.s) (hq : g.q = decide (p = e)) (he : g.s < e) : g.back z = p := by
 unfold Gd.back
 rw [hp]
 refine (?_ : (match (if p = g.s then none else some p) with | some p => min (max p 1) z | none => if g.q = true then g.s + g.l.length else g.s) = p)
 by_cases h : p = g.s
 · rw [if_pos h,hq,decide_eq_false (by exact (ar (.i (.E Z0 Z1) (.i (.T Z1 Z2) (.i (.E Z0 Z2) .f))) 3 [] [_,_,_]) h he)]
   exact h.symm
 · rw [if_neg h]
   refine (?_ : min (max p 1) z = p)
   exact (ar (.i (.L K1 Z0) (.i (.L Z0 Z1) (.E (.i (.o Z0 K1) Z1) Z0))) 2 [] [_,_]) h1 h2
theorem c_law_command (C : Calls call) (L : Lw w d σ H F G c) (un : σ.un = true) (X : Ed σ t) (ha : atB σ.rows = true) (hpb : σ.pb = some σ.pt) (ht : t.length ≤ 100) (hr : σ.rows.length ≤ 1000) (hc : c ≤ 1000) {fr : Int}
   (h : ∀ H' F' σ' t' g,Lw w d σ' H' F' G (c + 5) → Sb F F' → Cm F' σ t g σ' t' → t'.length ≤ t.length + 3 → Q (.int (g.back (t.length + 1))) H') : call (n + 7) .law_command [.ref d.D,.ref w.b,.int fr] H Q := by
 refine enter C (as := [_,_,_]) (b := b_law_command) rfl rfl rfl ?_
 have B := L.buf
 have hb := B.b
 have hsz := lim_of X.txt.sz
 have p1 := X.p1
 have p2 := X.p2
 have hz := X.zv
 have hrl : σ.rows.length + 20 < lim := by unfold lim; exact (ar (.i (.l N0 KK) (.t (.a N0 (.k 20)) KM)) 1 [_] []) hr
 refine s_assignNE (es_cons (v := .int σ.pt) (v_at rfl hb rfl) (es_consE (e_meth (x := w.b) (by rfl) hb rfl rfl (vs := []) rfl (c_size C B hsz ?_))))
 rw [X.txt.len]
 refine ⟨rfl, ?_⟩
 refine s_assignNE (es_consE (e_call (vs := [.ref d.D,.int 3]) (by rfl) (l_draw C L (by decide) (by decide) (by exact (ar (.i (.l N0 KK) (.t N0 KM)) 1 [_] []) hc) λ way H1 w1 w2 L1 => ?_)))
 refine es_consE (e_bin (ev_ok (.int 1) rfl (e_call (vs := [.ref d.D,.int (t.length + 1)]) (by rfl) (l_draw C L1 (by exact ar (.T K0 (.a (.u N0) K1)) 1 [_] []) (by exact (ar (.i (.l N0 (.k 100)) (.T (.a (.u N0) K1) KK)) 1 [_] []) ht) (by exact (ar (.i (.l N0 KK) (.t (.a N0 K1) KM)) 1 [_] []) hc) λ a H2 a1 a2 L2 => ?_))))
 refine ⟨rfl, ?_⟩
 refine s_assignE (e_bin (ev_ok (.var 6) (v := .int (1 + a)) rfl (e_call (vs := [.ref d.D,.int (t.length + 2 - (1 + a))]) (by rfl) (l_draw C L2 (by exact (ar (.i (.T Z0 (.a (.u N0) K1)) (.T K0 (.s (.a (.u N0) K2) (.a K1 Z0)))) 1 [_] [_]) a2) (by exact (ar (.i (.L K0 Z0) (.i (.l N0 (.k 100)) (.T (.s (.a (.u N0) K2) (.a K1 Z0)) KK))) 1 [_] [_]) a1 ht) (by exact (ar (.i (.l N0 KK) (.t (.a (.a N0 K1) K1) KM)) 1 [_] []) hc) λ b H3 b1 b2 L3 => ?_))))
 refine (?_ : mSs _ _ (upd _ 7 (.int (1 + a + b))) H3 _)
 refine s_assignE (e_rng (e_bin (ev_ok (.int 1) rfl (e_call (vs := [.ref d.D,.int 3]) (by rfl) (l_draw C L3 (by decide) (by decide) (by exact (ar (.i (.l N0 KK) (.t (.a (.a (.a N0 K1) K1) K1) KM)) 1 [_] []) hc) λ k H4 k1 k2 L4 => ?_)))))
 refine rngK_of (fresh := fr) rfl (by exact (ar (.i (.L K0 Z0) (.L K1 (.a K1 Z0))) 1 [] [_]) k1) (by exact (ar (.i (.T Z0 K3) (.L (.a K1 Z0) (.k 100))) 1 [] [_]) k2) λ m hm cs hcs => ?_
 have nc := L4.buf.new hcs
 have L5 := (L4.new (o := .list (il m)) hcs)
 have hc5 : (H4.set cs (.list (il m))) cs = some (.list (il m)) := at_self
 have L6 : Lw w d σ (H4.set cs (.list (il m))) F G (c + 5) := (⟨L5.1.buf,L5.1.dek,L5.1.o1,L5.1.o2,L5.1.o3,λ a o e => L5.1.kept a o (e.imp (L5.2 a o) λ e => e),λ a o e => L5.1.dis a o (L5.2 a o e)⟩ : Lw w d σ _ F G (c + 4)).le (by exact ar (.l (.a N0 K4) (.a N0 K5)) 1 [_] [])
 generalize H4.set cs (.list (il m)) = H5 at *
 generalize hs : 1 + a = s at *
 have hm0 : m ≠ [] := λ z => by rw [z] at hm; simp at hm; exact (ar (.i (.E K0 (.a K1 Z0)) (.i (.L K0 Z0) .f)) 1 [] [_]) hm k1
 refine s_ite (p := decide (way = 0 ∨ s = s + b)) ?_ (λ z => ?_) (λ z => ?_)
 · by_cases z1 : way = 0
   · simp [z1]
   · by_cases z2 : s = s + b
     · obtain rfl : b = 0 := by exact (ar (.i (.E Z0 (.a Z0 Z1)) (.E Z1 K0)) 2 [] [_,_]) z2
       simp [z1]
     · simp [z1,z2]
 · have G1 := L6.buf
   have hb5 := G1.b
   refine s_expr (e_meth (x := w.b) (by rfl) hb5 rfl rfl (vs := [.int s]) (by rfl) (c_goto C L6.buf λ H6 Y => ?_))
   have es : min (max s 1) σ.zv = s := by exact (ar (.i (.E (.a K1 Z0) Z1) (.i (.E Z2 (.a (.u N0) K1)) (.i (.L K0 Z0) (.i (.T Z0 (.a (.u N0) K1)) (.E (.i (.o Z1 K1) Z2) Z1))))) 3 [_] [_,_,_]) hs hz a1 a2
   rw [es] at Y
   have L7 := L6.go Y
   refine s_expr (e_call (vs := [.ref w.b,.ref cs]) (by rfl) (cd_insert C L7.buf un ⟨X.txt.of rfl rfl rfl,hz,X.ok,(by refine (?_ : 1 ≤ s); exact (ar (.i (.E (.a K1 Z0) Z1) (.i (.L K0 Z0) (.L K1 Z1))) 2 [] [_,_]) hs a1),(by refine (?_ : s ≤ σ.zv); exact (ar (.i (.E (.i (.o Z0 K1) Z1) Z0) (.L Z0 Z1)) 2 [] [_,_]) es)⟩ ha (Y.ext _ _ hc5 nc).1 (Y.ext _ _ hc5 nc).2 hm0 (by exact (ar (.i (.E (.u N0) (.a K1 Z0)) (.i (.l N1 (.k 100)) (.i (.T Z0 K3) (.l (.a N1 N0) KK)))) 2 [_,_] [_]) hm ht k2) hrl λ H7 σ' t' x hl => ?_))
   obtain ⟨F',sf,L8,cm⟩ := x.cm L7
   have cm : Cm F' σ t (.ins (umOf σ) s (s + m.length)) σ' t' := ⟨cm.ed,cm.rel,cm.rows,cm.pc,cm.um,⟨cm.kp.un,cm.kp.pb,cm.kp.tk⟩,cm.sv⟩
   refine s_ret (v := .int s) (by rfl) (h H7 F' σ' t' _ L8 sf cm (by exact (ar (.i (.E (.u N0) (.a K1 Z0)) (.i (.e N1 (.a N2 N0)) (.i (.T Z0 K3) (.l N1 (.a N2 K3))))) 3 [_,_,_] [_]) hm hl k2))
 · have z := of_decide_eq_false z
   have nb : ¬ b = 0 := λ y => z (.inr (by exact (ar (.i (.E Z0 K0) (.E Z1 (.a Z1 Z0))) 2 [] [_,_]) y))
   refine s_back (s_ite (p := (way == 1)) (by rfl) (λ z => ?_) (λ z => ?_))
   · refine s_expr (e_call (vs := [.ref w.b,.int s,.int (s + b)]) (by rfl) (cd_delete C L6.buf un X (by exact (ar (.i (.E (.a K1 Z0) Z1) (.i (.L K0 Z0) (.L K1 Z1))) 2 [] [_,_]) hs a1) (by exact (ar (.i (.L K0 Z0) (.i (.i (.E Z0 K0) .f) (.T Z1 (.a Z1 Z0)))) 2 [] [_,_]) b1 nb) (by exact (ar (.i (.E Z0 (.a (.u N0) K1)) (.i (.T Z1 (.s (.a (.u N0) K2) Z2)) (.L (.a Z2 Z1) Z0))) 3 [_] [_,_,_]) hz b2) hrl λ v H7 σ' t' pc x hl => s_back ?_))
     obtain ⟨F',sf,L8,cm⟩ := x.cm L6
     refine s_ret (v := .int σ.pt) (by rfl) ?_
     have hh := h H7 F' σ' t' _ L8 sf cm (by exact (ar (.i (.l N0 N1) (.l N0 (.a N1 K3))) 2 [_,_] []) hl)
     have e : Gr.back (.del ⟨umOf σ,pnOf (atB σ.rows) σ.pb s,nz (frOf s (s + b) σ.ms),s,pc,midT t s (s + b),decide (σ.pt = s + b)⟩) (t.length + 1) = σ.pt := back_pt (g := ⟨umOf σ,pnOf (atB σ.rows) σ.pb s,nz (frOf s (s + b) σ.ms),s,pc,midT t s (s + b),decide (σ.pt = s + b)⟩) (p := σ.pt) (z := t.length + 1) (e := s + b) p1 (by exact (ar (.i (.E Z0 (.a (.u N0) K1)) (.i (.L Z1 Z0) (.L Z1 (.a (.u N0) K1)))) 2 [_] [_,_]) hz p2) (by rw [ha,hpb]) rfl (by refine (?_ : s < s + b); exact (ar (.i (.L K0 Z0) (.i (.i (.E Z0 K0) .f) (.T Z1 (.a Z1 Z0)))) 2 [] [_,_]) b1 nb)
     exact (congrArg (λ p => Q (.int p) H7) e).mp hh
   · refine s_expr (e_call (vs := [.ref w.b,.int s,.int (s + b),.ref cs]) (by rfl) (cd_replace C L6.buf un X (by exact (ar (.i (.E (.a K1 Z0) Z1) (.i (.L K0 Z0) (.L K1 Z1))) 2 [] [_,_]) hs a1) (by exact (ar (.i (.L K0 Z0) (.i (.i (.E Z0 K0) .f) (.T Z1 (.a Z1 Z0)))) 2 [] [_,_]) b1 nb) (by exact (ar (.i (.E Z0 (.a (.u N0) K1)) (.i (.T Z1 (.s (.a (.u N0) K2) Z2)) (.L (.a Z2 Z1) Z0))) 3 [_] [_,_,_]) hz b2) hrl hc5 nc hm0 (by exact (ar (.i (.E (.u N0) (.a K1 Z0)) (.i (.l N1 (.k 100)) (.i (.T Z0 K3) (.l (.a N1 N0) KK)))) 2 [_,_] [_]) hm ht k2) λ v H7 σ' t' pc x hl => s_back ?_))
     obtain ⟨F',sf,L8,cm⟩ := x.cm L6
     refine s_ret (v := .int σ.pt) (by rfl) ?_
     have hh := h H7 F' σ' t' _ L8 sf cm (by exact (ar (.i (.E (.u N0) (.a K1 Z0)) (.i (.l N1 (.a N2 N0)) (.i (.T Z0 K3) (.l N1 (.a N2 K3))))) 3 [_,_,_] [_]) hm hl k2)
     have e : Gr.back (.rep ⟨umOf σ,pnOf (atB σ.rows) σ.pb s,nz (frOf s (s + b) σ.ms),s,pc,midT t s (s + b),decide (σ.pt = s + b)⟩ (s + m.length)) (t.length + 1) = σ.pt := back_pt (g := ⟨umOf σ,pnOf (atB σ.rows) σ.pb s,nz (frOf s (s + b) σ.ms),s,pc,midT t s (s + b),decide (σ.pt = s + b)⟩) (p := σ.pt) (z := t.length + 1) (e := s + b) p1 (by exact (ar (.i (.E Z0 (.a (.u N0) K1)) (.i (.L Z1 Z0) (.L Z1 (.a (.u N0) K1)))) 2 [_] [_,_]) hz p2) (by rw [ha,hpb]) rfl (by refine (?_ : s < s + b); exact (ar (.i (.L K0 Z0) (.i (.i (.E Z0 K0) .f) (.T Z1 (.a Z1 Z0)))) 2 [] [_,_]) b1 nb)
     exact (congrArg (λ p => Q (.int p) H7) e).mp hh
end

end P_C29

section P_C30
open PySem

noncomputable abbrev St := List (Gr × Vw)
noncomputable def Chain : Vw → St → Prop
 | _,[] => True
 | cur,x :: l => x.1.rel x.2 cur ∧ Chain x.2 l
noncomputable def flatR : St → List Row
 | [] => []
 | x :: l => flatR l ++ x.1.rows ++ [.bnd]
noncomputable def UmB (sv : Int) : St → Prop
 | [] => True
 | x :: l => x.1.um = (match l with | [] => some sv | _ :: _ => none) ∧ UmB sv l
structure Sk (F : AHeap) (MK : List AV) (cur : Vw) (st : St) : Prop where
 chain : Chain cur st
 pcs : ∀ x ∈ st,∀ p,x.1.pc = some p → PF F p.1 p.2
 vws : ∀ x ∈ st,x.2.t.length ≤ 100 ∧ refs x.2.ms = MK
noncomputable def SV (F : AHeap) (v : AV) (V : Vw) : Prop := ∃ x y,v = .tup [.ref x,.ref y] ∧ F x = some (.list (il V.t)) ∧ F y = some (.list (poss V.ms))
noncomputable def SVs (F : AHeap) : List AV → List Vw → Prop
 | [],[] => True
 | v :: vs,V :: Vs => SV F v V ∧ SVs F vs Vs
 | _,_ => False
noncomputable def BOk (A : List Row) : Prop := A = [] ∨ ∃ A',A = A' ++ [.bnd]
section
variable {F F' : AHeap} {MK : List AV} {cur : Vw} {st : St}
theorem SV.sub {v : AV} {V : Vw} (h : SV F v V) (s : Sb F F') : SV F' v V := by
 obtain ⟨x,y,e,a,b⟩ := h
 exact ⟨x,y,e,s _ _ a,s _ _ b⟩
theorem SVs.sub (s : Sb F F') : ∀ {vs : List AV} {Vs : List Vw},SVs F vs Vs → SVs F' vs Vs
 | [],[],_ => trivial
 | _ :: _,_ :: _,h => ⟨h.1.sub s,SVs.sub s h.2⟩
theorem SVs.app : ∀ {vs : List AV} {Vs : List Vw} {ws : List AV} {Ws : List Vw},SVs F vs Vs → SVs F ws Ws → SVs F (vs ++ ws) (Vs ++ Ws)
 | [],[],_,_,_,h => h
 | _ :: _,_ :: _,_,_,h,g => ⟨h.1,SVs.app h.2 g⟩
theorem SVs.rev : ∀ {vs : List AV} {Vs : List Vw},SVs F vs Vs → SVs F vs.reverse Vs.reverse
 | [],[],_ => trivial
 | _ :: _,_ :: _,h => by
   rw [List.reverse_cons,List.reverse_cons]
   exact (SVs.rev h.2).app ⟨h.1,trivial⟩
theorem SVs.len : ∀ {vs : List AV} {Vs : List Vw},SVs F vs Vs → vs.length = Vs.length
 | [],[],_ => rfl
 | _ :: _,_ :: _,h => congrArg (· + 1) (SVs.len h.2)
theorem SVs.get : ∀ {vs : List AV} {Vs : List Vw} (i : Nat) {V : Vw},SVs F vs Vs → Vs[i]? = some V → ∃ v,vs[i]? = some v ∧ SV F v V
 | [],_ :: _,_,_,h,_ => h.elim
 | [],[],_,_,_,e => by exact nn e
 | v :: _,_ :: _,0,V,h,e => ⟨v,rfl,by cases e; exact h.1⟩
 | _ :: vs,_ :: Vs,i + 1,V,h,e => SVs.get (vs := vs) (Vs := Vs) i h.2 e
theorem Sk.sub (h : Sk F MK cur st) (s : Sb F F') : Sk F' MK cur st := ⟨h.chain,λ x hx p e => (h.pcs x hx p e).sub s,h.vws⟩
theorem Sk.tail {x : Gr × Vw} (h : Sk F MK cur (x :: st)) : Sk F MK x.2 st := ⟨h.chain.2,λ y hy => h.pcs y (.tail _ hy),λ y hy => h.vws y (.tail _ hy)⟩
theorem Sk.push {g : Gr} {V : Vw} (h : Sk F MK cur st) (r : g.rel cur V) (hp : ∀ p,g.pc = some p → PF F p.1 p.2) (h1 : cur.t.length ≤ 100) (h2 : refs cur.ms = MK) : Sk F MK V ((g,cur) :: st) := by
 refine ⟨⟨r,h.chain⟩,λ x hx => ?_,λ x hx => ?_⟩
 · rcases List.mem_cons.mp hx with rfl | hx
   · exact hp
   · exact h.pcs x hx
 · rcases List.mem_cons.mp hx with rfl | hx
   · exact ⟨h1,h2⟩
   · exact h.vws x hx
theorem refs_mapP (f : Mk → Int) (l : List Mk) : refs (mapP f l) = refs l := by simp [refs,mapP]
theorem rel_refs {g : Gr} {A B : Vw} (h : g.rel A B) : refs B.ms = refs A.ms := by
 cases g with
 | ins um s e => rw [show A.ms = _ from RIns.ms h,refs_mapP]
 | del d => rw [show B.ms = _ from RDel.ms h,refs_mapP]
 | rep d e =>
   obtain ⟨M,h1,h2⟩ : ∃ M,RDel d.W d.s d.l A M ∧ RIns d.s e M B := h
   rw [← refs_mapP (fDel d.s e) B.ms,← h2.ms,h1.ms,refs_mapP]
theorem refs_len (l : List Mk) : (refs l).length = l.length := by simp [refs]
theorem refs_ne {a b : Addr} (n : a ≠ b) {l : List Mk} (h : refs l = [.ref a,.ref b]) : l.Pairwise λ x y => x.k ≠ y.k := by
 obtain ⟨x,y,rfl⟩ := len_two ((refs_len l).symm.trans (congrArg List.length h))
 obtain ⟨e1,e2⟩ := List.cons.inj h
 have e2 := (List.cons.inj e2).1
 cases e1; cases e2
 exact .cons (λ z hz => by obtain rfl := List.mem_singleton.mp hz; exact n) (.cons (λ _ h => absurd h List.not_mem_nil) .nil)
theorem um_len (u : Option Int) : (umR u).length ≤ 1 := by cases u <;> simp [umR]
theorem pn_len (u : Option Int) : (pnR u).length ≤ 1 := by cases u <;> simp [pnR]
theorem gd_len {d : Gd} {A B : Vw} (h : RDel d.W d.s d.l A B) (hl : A.ms.length ≤ 2) : d.rows.length ≤ 5 := by
 have a1 := um_len d.um
 have a2 := pn_len d.pn
 have a3 : d.W.length ≤ 2 := by
   rw [h.w]
   exact Nat.le_trans (List.length_filter_le _ _) (by unfold frOf; rw [List.length_map]; exact Nat.le_trans (List.length_filter_le _ _) hl)
 unfold Gd.rows
 simp only [List.length_append,mrkRows,List.length_map,List.length_singleton]
 exact (ar (.i (.l N0 K1) (.i (.l N1 K1) (.i (.l N2 K2) (.l (.a (.a (.a N1 N0) N2) K1) K5)))) 3 [_,_,_] []) a2 a1 a3
theorem rows_len {g : Gr} {A B : Vw} (h : g.rel A B) (hl : A.ms.length ≤ 2) : g.rows.length ≤ 6 := by
 cases g with
 | ins um s e => have := um_len um; simp [Gr.rows]; exact (ar (.i (.l N0 K1) (.l N0 K5)) 1 [_] []) this
 | del d => exact Nat.le_trans (gd_len h hl) (by exact ar (.l K5 K6) 0 [] [])
 | rep d e =>
   obtain ⟨M,h1,h2⟩ : ∃ M,RDel d.W d.s d.l A M ∧ RIns d.s e M B := h
   have := gd_len h1 hl
   simp [Gr.rows]; exact (ar (.i (.l N0 K5) (.l N0 K5)) 1 [_] []) this
theorem rows_last (g : Gr) : ∃ A r,g.rows = A ++ [r] ∧ r.isB = false := by
 cases g with
 | ins um s e => exact ⟨_,_,rfl,rfl⟩
 | del d => exact ⟨_,_,rfl,rfl⟩
 | rep d e => exact ⟨_,_,rfl,rfl⟩
theorem addB_rows (A : List Row) (g : Gr) : addB (A ++ g.rows) = A ++ g.rows ++ [.bnd] := by
 obtain ⟨B,r,e,hr⟩ := rows_last g
 unfold addB atB
 rw [e,← List.append_assoc,List.getLast?_append]
 refine (?_ : (if r.isB = true then _ else _) = _)
 rw [hr]; rfl
theorem atB_addB (A : List Row) : atB (addB A) = true := by
 unfold addB
 by_cases h : atB A = true
 · rw [if_pos h]; exact h
 · rw [if_neg h]; unfold atB; rw [List.getLast?_append]; rfl
theorem addB_len (A : List Row) : (addB A).length ≤ A.length + 1 := by unfold addB; split <;> simp
theorem BOk.at {A : List Row} (h : BOk A) : atB A = true := by
 rcases h with rfl | ⟨A',rfl⟩
 · rfl
 · unfold atB; rw [List.getLast?_append]; rfl
theorem BOk.add {A : List Row} (h : BOk A) : addB A = A := if_pos h.at
theorem BOk.flat {A : List Row} (h : BOk A) : ∀ st : St,BOk (A ++ flatR st)
 | [] => by simpa [flatR] using h
 | x :: l => .inr ⟨A ++ flatR l ++ x.1.rows,by simp [flatR]⟩
theorem ren_um (a b : Int) {g : Gr} (h : g.um = none) : g.rows.map (ren a b) = g.rows := by
 have hm : ∀ W : List (Addr × Int),(mrkRows W).map (ren a b) = mrkRows W := λ W => by simp [mrkRows,ren]
 have hp : ∀ p : Option Int,(pnR p).map (ren a b) = pnR p := λ p => by cases p <;> simp [pnR,ren]
 cases g with
 | ins um s e => cases (show um = none from h); simp [Gr.rows,umR,ren]
 | del d =>
   have h : d.um = none := h
   simp [Gr.rows,Gd.rows,h,umR,hm,hp,ren]
 | rep d e =>
   have h : d.um = none := h
   simp [Gr.rows,Gd.rows,h,umR,hm,hp,ren]
theorem ren_flat (a b : Int) : ∀ {st : St},(∀ x ∈ st,x.1.um = none) → (flatR st).map (ren a b) = flatR st
 | [],_ => rfl
 | x :: l,h => by
   simp only [flatR,List.map_append,ren_flat a b λ y hy => h y (.tail _ hy),ren_um a b (h x (.head _))]
   rfl
theorem BOk.ren {A : List Row} (h : BOk A) (a b : Int) : BOk (A.map (ren a b)) := by
 rcases h with rfl | ⟨A',rfl⟩
 · exact .inl rfl
 · exact .inr ⟨A'.map (Mine.ren a b),by simp [Mine.ren]⟩
end
section
variable {H : AHeap}
theorem eqvl_il (n : Nat) : ∀ l : List Int,eqvl (eqv H (n + 1)) (il l) (il l) = some true
 | [] => rfl
 | i :: l => by
   refine (?_ : andO (some (i == i)) (eqvl (eqv H (n + 1)) (il l) (il l)) = _)
   rw [eqvl_il n l,beq_self_eq_true]; rfl
theorem eqv_ref {x y : Addr} {l : List Int} (n : Nat) (hx : H x = some (.list (il l))) (hy : H y = some (.list (il l))) : eqv H (n + 2) (.ref x) (.ref y) = some true := by
 refine (?_ : (if x = y then some true else (match H x,H y with
     | some (.list xs),some (.list ys) => if xs.length = ys.length then eqvl (eqv H (n + 1)) xs ys else some false
     | _,_ => none)) = _)
 by_cases h : x = y
 · rw [if_pos h]
 · rw [if_neg h,hx,hy]
   refine (?_ : (if (il l).length = (il l).length then eqvl (eqv H (n + 1)) (il l) (il l) else some false) = _)
   rw [if_pos rfl]
   exact eqvl_il n l
theorem poss_il (ms : List Mk) : poss ms = il (ms.map λ r => r.pos) := by simp [poss]
theorem eqvs_two {f : AV → AV → Option Bool} {x y : AV} {xs ys : List AV} (h : f x y = some true) (k : eqvs f xs ys = some true) : eqvs f (x :: xs) (y :: ys) = some true := by
 refine (?_ : (match f x y with | some true => eqvs f xs ys | r => r) = _)
 rw [h]; exact k
theorem states_eq {x y x' y' : Addr} {V : Vw} (hx : H x = some (.list (il V.t))) (hy : H y = some (.list (poss V.ms))) (hx' : H x' = some (.list (il V.t))) (hy' : H y' = some (.list (poss V.ms))) : cmpv H .ne (.tup [.ref x,.ref y]) (.tup [.ref x',.ref y']) = some false := by
 rw [poss_il] at hy hy'
 refine (?_ : (eqvs (eqv H 4) [.ref x,.ref y] [.ref x',.ref y']).map (!·) = _)
 rw [eqvs_two (eqv_ref 2 hx hx') (eqvs_two (eqv_ref 2 hy hy') rfl)]
 rfl
theorem eqv_row (r : Row) : eqv H 4 r.av r.av = some true := by
 have e : ∀ a : Addr,eqv H 3 (.ref a) (.ref a) = some true := λ a => if_pos rfl
 have t : ∀ {xs : List AV},eqvs (eqv H 3) xs xs = some true → eqv H 4 (.tup xs) (.tup xs) = some true := λ h => h
 have nl : eqvs (eqv H 3) [] [] = some true := rfl
 have two : ∀ {x : AV} {xs : List AV},eqv H 3 x x = some true → eqvs (eqv H 3) xs xs = some true → eqvs (eqv H 3) (x :: xs) (x :: xs) = some true := eqvs_two
 have i : ∀ t : Int,eqv H 3 (.int t) (.int t) = some true := λ t => congrArg some (beq_self_eq_true t)
 cases r with
 | bnd => rfl
 | ins s e => exact t (xs := [.str .insert,.int s,.int e]) <| two (x := .str .insert) rfl (two (i s) (two (i e) nl))
 | del s p b => exact t (xs := [.str .delete,.int s,.ref p,.bool b]) <| two (x := .str .delete) rfl (two (i s) (two (e p) (two (x := .bool b) (congrArg some (beq_self_eq_true b)) nl)))
 | mrk k d => exact t (xs := [.str .marker,.ref k,.int d]) <| two (x := .str .marker) rfl (two (e k) (two (i d) nl))
 | pnt p => exact t (xs := [.str .point,.int p]) <| two (x := .str .point) rfl (two (i p) nl)
 | unm u => exact t (xs := [.str .unmodified,.int u]) <| two (x := .str .unmodified) rfl (two (i u) nl)
theorem eqvl_rows : ∀ l : List Row,eqvl (eqv H 4) (l.map Row.av) (l.map Row.av) = some true
 | [] => rfl
 | r :: l => by
   refine (?_ : andO (eqv H 4 r.av r.av) (eqvl (eqv H 4) (l.map Row.av) (l.map Row.av)) = _)
   rw [eqvl_rows l,eqv_row]; rfl
theorem rows_eq {x y : Addr} {R : List Row} (n : x ≠ y) (hx : H x = some (.list (R.map Row.av))) (hy : H y = some (.list (R.map Row.av))) : cmpv H .ne (.ref x) (.ref y) = some false := by
 refine (?_ : (if x = y then none else (if x = y then some true else (match H x,H y with
     | some (.list xs),some (.list ys) => if xs.length = ys.length then eqvl (eqv H 4) xs ys else some false
     | _,_ => none))).map (!·) = _)
 rw [if_neg n,if_neg n,hx,hy]
 refine (?_ : (if (R.map Row.av).length = (R.map Row.av).length then eqvl (eqv H 4) (R.map Row.av) (R.map Row.av) else some false).map (!·) = _)
 rw [if_pos rfl,eqvl_rows]; rfl
end

end P_C30

section P_C31
open PySem

section
variable {call : Fn → List AV → AHeap → (AV → AHeap → Prop) → Prop} {H : AHeap} {ρ : Locals}
theorem forR {x : Nat} {b : List MS} {Q : SPost} (I : Nat → Locals → AHeap → Prop) {m : Nat} (turn : ∀ j,j < m → ∀ ρ H,I j ρ H → ∀ Q' : SPost,(∀ ρ' H',I (j + 1) ρ' H' → Q' .next ρ' H') → mSs call b (upd ρ x (.int (j : Int))) H Q') (h : ∀ ρ' H',I m ρ' H' → Q .next ρ' H') :
   ∀ k j,j + k = m → ∀ ρ H,I j ρ H → mFor (bindT [x] true) (λ _ => True) (λ ρ' H' Q' => mSs call b ρ' H' Q') ((List.range' j k).map λ (i : Nat) => .int (i : Int)) ρ H Q
 | 0,j,e,ρ,H,i => h ρ H (by rw [← e]; exact i)
 | k + 1,j,e,ρ,H,i => ⟨_,rfl,turn j (by exact (ar (.i (.e (.a N0 (.a N1 K1)) N2) (.t N0 N2)) 3 [_,_,_] []) e) ρ H i _ λ ρ' H' i' => ⟨trivial,forR I turn h k (j + 1) (by exact (ar (.i (.e (.a N0 (.a N1 K1)) N2) (.e (.a (.a N0 K1) N1) N2)) 3 [_,_,_] []) e) ρ' H' i'⟩⟩
noncomputable def forK (call : Fn → List AV → AHeap → (AV → AHeap → Prop) → Prop) (x : Nat) (b ss : List MS) (Q : SPost) (ρ : Locals) (u : AV) (H₁ : AHeap) : Prop := match u with
   | .int n => 0 ≤ n ∧ n ≤ lim ∧ mFor (bindT [x] true) (λ _ => True) (λ ρ' H' Q' => mSs call b ρ' H' Q') ((List.range n.toNat).map λ (i : Nat) => .int (i : Int)) ρ H₁ (sq call ss Q)
   | _ => False
theorem s_forRE {x : Nat} {e : ME} {b ss : List MS} {Q : SPost} (h : mE call e ρ H (forK call x b ss Q ρ)) : mSs call (.forRange x e b :: ss) ρ H Q := h
theorem forK_of {x : Nat} {b ss : List MS} {Q : SPost} (I : Nat → Locals → AHeap → Prop) {m : Nat} {v : Int} (hv : v = m) (hm : m ≤ 1000) (i0 : I 0 ρ H) (turn : ∀ j,j < m → ∀ ρ H,I j ρ H → ∀ Q' : SPost,(∀ ρ' H',I (j + 1) ρ' H' → Q' .next ρ' H') → mSs call b (upd ρ x (.int (j : Int))) H Q') (h : ∀ ρ' H',I m ρ' H' → mSs call ss ρ' H' Q) : forK call x b ss Q ρ (.int v) H := by
 subst hv
 refine ⟨by exact ar (.L K0 (.u N0)) 1 [_] [],by unfold lim; exact (ar (.i (.l N0 KK) (.L (.u N0) (.u KM))) 1 [_] []) hm, ?_⟩
 rw [Int.toNat_natCast,List.range_eq_range']
 exact forR I turn h m 0 (by exact ar (.e (.a K0 N0) N0) 1 [_] []) ρ H i0
theorem e_callE {f : Fn} {as : List ME} {P : AV → AHeap → Prop} (h : mEs call as ρ H λ vs H' => call f vs H' P) : mE call (.call f as) ρ H P := h
theorem es_v {e : ME} {es : List ME} {v : AV} {Qs : List AV → AHeap → Prop} (he : Val call ρ H e v) (h : mEs call es ρ H λ vs H₂ => Qs (v :: vs) H₂) : mEs call (e :: es) ρ H Qs := he _ h
noncomputable def appK (x : Addr) (P : AV → AHeap → Prop) (u : AV) (H₂ : AHeap) : Prop := match H₂ x with | some (.list xs) => xs.length < lim ∧ P .none (H₂.set x (.list (xs ++ [u]))) | _ => False
theorem e_app {o e : ME} {x : Addr} {xs : List AV} {P : AV → AHeap → Prop} (ho : ev H ρ o = some (.ref x)) (hx : H x = some (.list xs)) (h : mE call e ρ H (appK x P)) : mE call (.append o e) ρ H P := e_appendE ho hx h
theorem appK_of {x : Addr} {xs : List AV} {u : AV} {P : AV → AHeap → Prop} (hx : H x = some (.list xs)) (hl : xs.length < lim) (h : P .none (H.set x (.list (xs ++ [u])))) : appK x P u H := by
 unfold appK; rw [hx]; exact ⟨hl,h⟩
end
structure Lc (w : Wh) (d : Dk) (M S P : Addr) (ρ : Locals) : Prop where
 r1 : ρ 1 = some (.ref d.D)
 r3 : ρ 3 = some (.ref w.b)
 r4 : ρ 4 = some (.ref M)
 r6 : ρ 6 = some (.ref S)
 r7 : ρ 7 = some (.ref P)
 r8 : ρ 8 = some (.ref w.u)
theorem Lc.upd {w : Wh} {d : Dk} {M S P : Addr} {ρ : Locals} (h : Lc w d M S P ρ) {x : Nat} (hx : 9 ≤ x) (v : AV) : Lc w d M S P (Mine.upd ρ x v) := by
 have e : ∀ i,i < 9 → Mine.upd ρ x v i = ρ i := λ i hi => if_neg (by exact (ar (.i (.l K9 N0) (.i (.t N1 K9) (.i (.e N1 N0) .f))) 2 [_,_] []) hx hi)
 exact ⟨(e 1 (by exact ar (.t K1 K9) 0 [] [])).trans h.r1,(e 3 (by exact ar (.t K3 K9) 0 [] [])).trans h.r3,(e 4 (by exact ar (.t K4 K9) 0 [] [])).trans h.r4,(e 6 (by exact ar (.t K6 K9) 0 [] [])).trans h.r6,(e 7 (by exact ar (.t K7 K9) 0 [] [])).trans h.r7,(e 8 (by exact ar (.t K8 K9) 0 [] [])).trans h.r8⟩
noncomputable def ptsOf (st : St) : List AV := st.map λ x => .int (x.1.back (x.2.t.length + 1))
structure In (w : Wh) (d : Dk) (M S P : Addr) (MK : List AV) (i : Nat) (σ : Sg) (H F G : AHeap) (c : Nat) (t : List Int) (st : St) (ss ps : List AV) : Prop where
 lw : Lw w d σ H F G c
 hc : c ≤ 50 + 10 * i
 un : σ.un = true
 ed : Ed σ t
 ht : t.length ≤ 10 + 3 * i
 rf : refs σ.ms = MK
 fM : F M = some (.list MK)
 rows : addB σ.rows = flatR st
 rl : σ.rows.length ≤ 10 * i
 sk : Sk F MK ⟨t,σ.ms⟩ st
 len : st.length = i
 um : UmB σ.sv st
 t0 : st = [] → σ.sv = σ.tk ∧ σ.nt = none
 t1 : st ≠ [] → σ.sv < σ.tk
 gS : G S = some (.list ss)
 gP : G P = some (.list ps)
 sv : SVs F ss ((st.map (·.2)).reverse ++ [⟨t,σ.ms⟩])
 pv : ps = (ptsOf st).reverse
section
variable {call : Nat → Fn → List AV → AHeap → (AV → AHeap → Prop) → Prop} {n : Nat} {H H' F F' G : AHeap} {w : Wh} {d : Dk} {σ σ' : Sg} {Q : AV → AHeap → Prop} {t : List Int} {c : Nat} {M S P : Addr} {MK : List AV} {st : St} {ss ps : List AV}
noncomputable def loop1 : List MS := [.expr (.meth (.var 8) .boundary []),.expr (.meth (.var 8) .begin_command [(.attr (.var 3) .point)]),.expr (.append (.var 7) (.call .law_command [(.var 1),(.var 3),(.bin .add (.bin .mul (.int 20) (.var 9)) (.int 20))])),.expr (.append (.var 6) (.call .law_state [(.var 3),(.var 4)])),.ite (.cmp .eq (.call .draw [(.var 1),(.int 3)]) (.int 0)) [.expr (.meth (.var 3) .goto [(.bin .add (.int 1) (.call .draw [(.var 1),(.bin .add (.meth (.var 3) .size []) (.int 1))]))])] []]
theorem In.goto {i : Nat} (h : In w d M S P MK i σ H F G c t st ss ps) {p : Int} (h1 : 1 ≤ p) (h2 : p ≤ σ.zv) {c' : Nat} (hc : c' ≤ 50 + 10 * i) (L : Lw w d { σ with pt := p } H' F G c') : In w d M S P MK i { σ with pt := p } H' F G c' t st ss ps :=
 ⟨L,hc,h.un,⟨h.ed.txt.of rfl rfl rfl,h.ed.zv,h.ed.ok,h1,h2⟩,h.ht,h.rf,h.fM,h.rows,h.rl,h.sk,h.len,h.um,h.t0,h.t1,h.gS,h.gP,h.sv,h.pv⟩
theorem In.draw {i : Nat} (h : In w d M S P MK i σ H F G c t st ss ps) {c' : Nat} (hc : c' ≤ 50 + 10 * i) (L : Lw w d σ H' F G c') : In w d M S P MK i σ H' F G c' t st ss ps :=
 ⟨L,hc,h.un,h.ed,h.ht,h.rf,h.fM,h.rows,h.rl,h.sk,h.len,h.um,h.t0,h.t1,h.gS,h.gP,h.sv,h.pv⟩
theorem turn1 (C : Calls call) (nSP : S ≠ P) {j : Nat} (hj : j < 10) (hMK : MK.length = 2) {ρ : Locals} (lc : Lc w d M S P ρ) (r9 : ρ 9 = some (.int j)) (h : In w d M S P MK j σ H F G c t st ss ps) {Q' : SPost}
   (k : ∀ ρ' H' σ' F' G' c' t' st' ss' ps',Lc w d M S P ρ' → In w d M S P MK (j + 1) σ' H' F' G' c' t' st' ss' ps' → Q' .next ρ' H') : mSs (call (n + 8)) loop1 ρ H Q' := by
 have un := h.un
 have B := h.lw.buf
 have hu := B.u un
 have hb := B.b
 have hrl := h.rl
 have hcc := h.hc
 have htl := h.ht
 have hms : σ.ms.length ≤ 2 := by rw [← refs_len,h.rf,hMK]; exact ar (.l K2 K2) 0 [] []
 refine s_expr (e_meth (x := w.u) lc.r8 hu rfl rfl (vs := []) rfl (c_ul_boundary C B un (by unfold lim; exact (ar (.i (.l N0 (.m 10 N1)) (.i (.t N1 (.k 10)) (.t N0 KM))) 2 [_,_] []) hrl hj) λ H1 Y1 => ?_))
 rw [h.rows] at Y1
 have L1 := h.lw.go Y1
 have hu1 := L1.buf.u un
 have hb1 := L1.buf.b
 refine s_expr (e_meth (x := w.u) lc.r8 hu1 rfl rfl (vs := [.int σ.pt]) (v_cons (v_at lc.r3 hb1 rfl) rfl) (c_ul_begin C L1.buf un λ H2 Y2 => ?_))
 have L2 := L1.go Y2
 have eG : ∀ {H F c σ},Lw w d σ H F G c → H P = some (.list ps) := λ L => (L.kept _ _ (.inr h.gP)).1
 have hps : ps.length = j := by rw [h.pv]; simp [ptsOf,h.len]
 have hss : ss.length = j + 1 := by rw [h.sv.len]; simp [h.len]
 have X2 : Ed ({ ({ σ with rows := flatR st } : Sg) with pb := some σ.pt } : Sg) t := ⟨h.ed.txt.of rfl rfl rfl,h.ed.zv,h.ed.ok,h.ed.p1,h.ed.p2⟩
 have hat : atB (flatR st) = true := by rw [← h.rows]; exact atB_addB _
 have hfl : (flatR st).length ≤ 10 * j + 1 := by rw [← h.rows]; exact Nat.le_trans (addB_len _) (by exact (ar (.i (.l N0 (.m 10 N1)) (.l (.a N0 K1) (.a (.m 10 N1) K1))) 2 [_,_] []) hrl)
 refine s_expr (e_app (x := P) lc.r7 (eG L2) (e_callE (es_cons (v := .ref d.D) lc.r1 (es_cons (v := .ref w.b) lc.r3 (es_v (v := .int (20 * j + 20)) (Val.add (Val.mul (Val.of (by rfl)) (Val.of (by assumption)) (by decide) (by omega)) (Val.of (by rfl))) ?_)))))
 refine (?_ : call (n + 8) .law_command [.ref d.D,.ref w.b,.int (20 * j + 20)] H2 _)
 refine c_law_command C L2 un X2 hat rfl (by exact (ar (.i (.l N0 (.a (.k 10) (.m 3 N1))) (.i (.t N1 (.k 10)) (.l N0 (.k 100)))) 2 [_,_] []) htl hj) (by refine (?_ : (flatR st).length ≤ 1000); exact (ar (.i (.l N0 (.a (.m 10 N1) K1)) (.i (.t N1 (.k 10)) (.l N0 KK))) 2 [_,_] []) hfl hj) (by exact (ar (.i (.l N0 (.a (.k 50) (.m 10 N1))) (.i (.t N1 (.k 10)) (.l N0 KK))) 2 [_,_] []) hcc hj) λ H3 F3 σ3 t3 g L3 s3 cm hl3 => ?_
 have L4 := L3.poke (l' := ps ++ [.int (g.back (t.length + 1))]) h.gP
 refine appK_of (eG L3) (by unfold lim; exact (ar (.i (.e N0 N1) (.i (.t N1 (.k 10)) (.t N0 KM))) 2 [_,_] []) hps hj) ?_
 generalize H3.set P (.list (ps ++ [.int (g.back (t.length + 1))])) = H4 at *
 have gS4 : (G.set P (.list (ps ++ [.int (g.back (t.length + 1))]))) S = some (.list ss) := at_other h.gS nSP
 have gP4 : (G.set P (.list (ps ++ [.int (g.back (t.length + 1))]))) P = some (.list (ps ++ [.int (g.back (t.length + 1))])) := at_self
 generalize G.set P (.list (ps ++ [.int (g.back (t.length + 1))])) = G4 at *
 have rf3 : refs σ3.ms = MK := (rel_refs cm.rel).trans h.rf
 have fM3 := s3 _ _ h.fM
 refine s_expr (e_app (x := S) lc.r6 (L4.kept _ _ (.inr gS4)).1 (e_call (vs := [.ref w.b,.ref M]) (v_cons lc.r3 (v_cons lc.r4 rfl)) (c_law_state C L4 cm.ed (by rw [fM3,rf3]) λ H5 F5 x y L5 s5 fx fy => ?_)))
 refine appK_of (L5.kept _ _ (.inr gS4)).1 (by unfold lim; exact (ar (.i (.e N0 (.a N1 K1)) (.i (.t N1 (.k 10)) (.t N0 KM))) 2 [_,_] []) hss hj) ?_
 have L6 := L5.poke (l' := ss ++ [.tup [.ref x,.ref y]]) gS4
 generalize H5.set S (.list (ss ++ [.tup [.ref x,.ref y]])) = H6 at *
 have gP6 : (G4.set S (.list (ss ++ [.tup [.ref x,.ref y]]))) P = _ := at_other gP4 nSP.symm
 have gS6 : (G4.set S (.list (ss ++ [.tup [.ref x,.ref y]]))) S = _ := at_self
 generalize G4.set S (.list (ss ++ [.tup [.ref x,.ref y]])) = G6 at *
 have s05 := s3.trans s5
 have I6 : In w d M S P MK (j + 1) σ3 H6 F5 G6 (c + 5) t3 ((g,⟨t,σ.ms⟩) :: st) (ss ++ [.tup [.ref x,.ref y]]) (ps ++ [.int (g.back (t.length + 1))]) := by
   have hg := rows_len cm.rel (by exact hms)
   have er : σ3.rows = flatR st ++ g.rows := cm.rows
   have hum : g.um = umOf σ := cm.um
   refine ⟨L6,by exact (ar (.i (.l N0 (.a (.k 50) (.m 10 N1))) (.l (.a N0 K5) (.a (.k 50) (.m 10 (.a N1 K1))))) 2 [_,_] []) hcc,cm.kp.un.trans un,cm.ed,by exact (ar (.i (.l N0 (.a (.k 10) (.m 3 N1))) (.i (.l N2 (.a N0 K3)) (.l N2 (.a (.k 10) (.m 3 (.a N1 K1)))))) 3 [_,_,_] []) htl hl3,rf3,s5 _ _ fM3,by rw [er,addB_rows]; rfl, ?_,(h.sk.sub s05).push cm.rel (λ p e => (cm.pc p e).sub s5) (by refine (?_ : t.length ≤ 100); exact (ar (.i (.l N0 (.a (.k 10) (.m 3 N1))) (.i (.t N1 (.k 10)) (.l N0 (.k 100)))) 2 [_,_] []) htl hj) h.rf,by rw [List.length_cons,h.len], ?_,λ z => (by cases z),λ _ => ?_,gS6,gP6, ?_, ?_⟩
   · rw [er,List.length_append]; exact (ar (.i (.l N0 (.a (.m 10 N1) K1)) (.i (.l N2 K6) (.l (.a N0 N2) (.m 10 (.a N1 K1))))) 3 [_,_,_] []) hfl hg
   · have hs : σ3.sv = σ.sv := cm.sv
     refine ⟨?_,by rw [hs]; exact h.um⟩
     cases st with
     | nil =>
       obtain ⟨a,b⟩ := h.t0 rfl
       rw [hum,hs]
       refine (?_ : umOf σ = some σ.sv)
       unfold umOf
       rw [if_pos ⟨by rw [a]; simp,by rw [b]; simp⟩]
     | cons y l =>
       rw [hum]
       exact umOf_none (h.t1 (List.cons_ne_nil _ _))
   · have a : σ.tk < σ3.tk := cm.kp.tk
     have b : σ3.sv = σ.sv := cm.sv
     by_cases z : st = []
     · have := (h.t0 z).1; exact (ar (.i (.E Z0 Z1) (.i (.E Z2 Z0) (.i (.T Z1 Z3) (.T Z2 Z3)))) 4 [] [_,_,_,_]) this b a
     · have := h.t1 z; exact (ar (.i (.E Z0 Z1) (.i (.T Z1 Z2) (.i (.T Z2 Z3) (.T Z0 Z3)))) 4 [] [_,_,_,_]) b this a
   · rw [List.map_cons,List.reverse_cons,List.append_assoc]
     have h1 := (h.sv.sub s05)
     have h2 : SVs F5 [AV.tup [.ref x,.ref y]] [⟨t3,σ3.ms⟩] := ⟨⟨x,y,rfl,fx,fy⟩,trivial⟩
     have h3 := h1.app h2
     rw [List.append_assoc] at h3
     exact h3
   · rw [h.pv]; simp [ptsOf]
 refine s_iteE (t_cmp (e_call (vs := [.ref d.D,.int 3]) (v_cons lc.r1 rfl) (l_draw C I6.lw (by decide) (by decide) (by exact (ar (.i (.l N0 (.a (.k 50) (.m 10 N1))) (.i (.t N1 (.k 10)) (.t (.a N0 K5) KM))) 2 [_,_] []) hcc hj) λ v H7 v1 v2 L7 => ev_ok (.int 0) rfl (cmpK_of (r := (v == 0)) rfl ⟨λ _ => ?_,λ _ => s_back (k ρ H7 _ _ _ _ _ _ _ _ lc (I6.draw (by exact (ar (.i (.l N0 (.a (.k 50) (.m 10 N1))) (.l (.a (.a N0 K5) K1) (.a (.k 50) (.m 10 (.a N1 K1))))) 2 [_,_] []) hcc) L7))⟩))))
 have hb7 := L7.buf.b
 have hsz := lim_of I6.ed.txt.sz
 refine s_expr (e_methE (x := w.b) lc.r3 hb7 rfl rfl (es_consE (e_bin (ev_ok (.int 1) rfl (e_callE (es_cons (v := .ref d.D) lc.r1 (es_consE (e_bin (e_meth (x := w.b) lc.r3 hb7 rfl rfl (vs := []) rfl (c_size C L7.buf hsz ?_))))))))))
 rw [I6.ed.txt.len]
 refine ev_ok (.int 1) rfl ?_
 refine (?_ : call (n + 8) .draw [.ref d.D,.int (t3.length + 1)] H7 _)
 refine l_draw C L7 (by exact ar (.T K0 (.a (.u N0) K1)) 1 [_] []) (by exact (ar (.i (.l N0 (.a (.k 10) (.m 3 N1))) (.i (.l N2 (.a N0 K3)) (.i (.t N1 (.k 10)) (.T (.a (.u N2) K1) KK)))) 3 [_,_,_] []) htl hl3 hj) (by exact (ar (.i (.l N0 (.a (.k 50) (.m 10 N1))) (.i (.t N1 (.k 10)) (.t (.a (.a N0 K5) K1) KM))) 2 [_,_] []) hcc hj) λ q H8 q1 q2 L8 => ?_
 refine (?_ : call (n + 8) .buf_goto [.ref w.b,.int (1 + q)] H8 _)
 refine c_goto C L8.buf λ H9 Y9 => s_back ?_
 have hz := I6.ed.zv
 have e : min (max (1 + q) 1) σ3.zv = 1 + q := by exact (ar (.i (.E Z0 (.a (.u N0) K1)) (.i (.L K0 Z1) (.i (.T Z1 (.a (.u N0) K1)) (.E (.i (.o (.a K1 Z1) K1) Z0) (.a K1 Z1))))) 2 [_] [_,_]) hz q1 q2
 rw [e] at Y9
 exact k ρ H9 _ _ _ _ _ _ _ _ lc (I6.goto (by exact (ar (.i (.L K0 Z0) (.L K1 (.a K1 Z0))) 1 [] [_]) q1) (by exact (ar (.i (.E (.i (.o (.a K1 Z0) K1) Z1) (.a K1 Z0)) (.L (.a K1 Z0) Z1)) 2 [] [_,_]) e) (by exact (ar (.i (.l N0 (.a (.k 50) (.m 10 N1))) (.l (.a (.a (.a N0 K5) K1) K1) (.a (.k 50) (.m 10 (.a N1 K1))))) 2 [_,_] []) hcc) (L8.go Y9))
end

end P_C31

section P_C32
open PySem

noncomputable def agn (fst : Bool) : Int := if fst = true then 0 else 1
structure Lp (w : Wh) (d : Dk) (M S P L K TN : Addr) (fst : Bool) (k : Nat) (ρ : Locals) : Prop extends Lc w d M S P ρ where
 r10 : ρ 10 = some (.int (agn fst))
 r11 : ρ 11 = some (.ref L)
 r12 : ρ 12 = some (.ref TN)
 r13 : ρ 13 = some (.int k)
 r14 : ρ 14 = some (.ref K)
structure Pw where
 (w : Wh) (d : Dk) (M S P L K TN k1 k2 : Addr) (fst : Bool) (U : List Vw) (st₀ : St) (base R : List Row) (uv ps : List AV)
noncomputable abbrev Pw.MK (p : Pw) : List AV := [.ref p.k1,.ref p.k2]
structure Pw.Ok (p : Pw) : Prop where
 hb : BOk p.base
 hR : p.R.length ≤ 1000
 nk : p.k1 ≠ p.k2
 nLK : p.L ≠ p.K
 pv : p.fst = true → p.ps = (ptsOf p.st₀).reverse
 hn : p.st₀.length ≤ 100
structure Pa (p : Pw) (j : Nat) (σ : Sg) (H F G : AHeap) (c : Nat) (t : List Int) (st hst : St) : Prop where
 lw : Lw p.w p.d σ H F G c
 un : σ.un = true
 ed : Ed σ t
 ht : t.length ≤ 100
 rf : refs σ.ms = p.MK
 fM : F p.M = some (.list p.MK)
 sk : Sk F p.MK ⟨t,σ.ms⟩ st
 hk : Sk F p.MK ⟨t,σ.ms⟩ hst
 U : p.U = (hst.map (·.2)).reverse ++ ⟨t,σ.ms⟩ :: st.map (·.2)
 hl : hst.length = j
 fL : F p.L = some (.list (p.R.map Row.av))
 fK : F p.K = some (.list (p.R.map Row.av))
 sv : SVs F p.uv p.U
 fT : F p.TN = some (.list (p.uv.drop 1))
 gP : G p.P = some (.list p.ps)
 R : ∃ D,p.R = p.base ++ flatR st ++ D
 ab : atB σ.rows = true
 rl : σ.rows.length ≤ p.R.length + 10 * j
 f1 : p.fst = true → UmB σ.sv st ∧ (st ≠ [] → σ.sv < σ.tk) ∧ (st = [] → σ.sv = σ.tk) ∧ (∃ B,BOk B ∧ σ.rows = B ++ flatR hst) ∧ (∀ x ∈ hst,x.1.um = none) ∧ ∃ dn,p.st₀ = dn ++ st ∧ dn.length = j
 f2 : p.fst = false → (∀ x ∈ st,x.1.um = none) ∧ σ.sv ≤ σ.tk ∧ (hst ≠ [] → σ.sv < σ.tk)
noncomputable def loop2 : List MS := [.assign 13 (.call .undo_group [(.var 3),(.var 11),(.var 13)]),.ite (.or [(.cmp .ne (.call .law_state [(.var 3),(.var 4)]) (.idx (.var 12) (.var 9))),(.cmp .ne (.var 11) (.var 14))]) [.ret (some (.bool false))] [],.ite (.and [(.cmp .eq (.var 10) (.int 0)),(.cmp .ne (.attr (.var 3) .point) (.idx (.var 7) (.bin .sub (.bin .sub (.len (.var 7)) (.int 1)) (.var 9))))]) [.ret (some (.bool false))] [],.expr (.meth (.var 8) .boundary [])]
section
variable {call : Fn → List AV → AHeap → (AV → AHeap → Prop) → Prop} {H : AHeap} {ρ : Locals}
theorem t_or {es : List ME} {K : Bool → AHeap → Prop} (h : mAll call false es ρ H K) : mT call (.or es) (mE call (.or es) ρ H) ρ H K := h
theorem t_and {es : List ME} {K : Bool → AHeap → Prop} (h : mAll call true es ρ H K) : mT call (.and es) (mE call (.and es) ρ H) ρ H K := h
theorem a_cons {b : Bool} {e : ME} {es : List ME} {K : Bool → AHeap → Prop} (h : mT call e (mE call e ρ H) ρ H λ r H' => (r = b → mAll call b es ρ H' K) ∧ (r = !b → K r H')) : mAll call b (e :: es) ρ H K := h
theorem a_nil {b : Bool} {K : Bool → AHeap → Prop} (h : K b H) : mAll call b [] ρ H K := h
end
section
variable {call : Nat → Fn → List AV → AHeap → (AV → AHeap → Prop) → Prop} {n : Nat} {H H' F F' G : AHeap} {w : Wh} {d : Dk} {σ σ' : Sg} {Q : AV → AHeap → Prop} {t : List Int} {c : Nat} {p : Pw} {st hst : St}
theorem Ud.cm {g hg : Gr} {V : Vw} (L : Lw w d σ H F G c) (x : Ud w H σ t g V σ' H' hg) : ∃ F',Sb F F' ∧ Lw w d σ' H' F' G c ∧ ∀ p,hg.pc = some p → PF F' p.1 p.2 := by
 have L' := L.go x.go
 cases e : hg.pc with
 | none => exact ⟨F,λ _ _ e => e,L',λ p z => by exact nn z⟩
 | some p =>
   obtain ⟨F',s,L2,pf⟩ := L.piece L' (x.pc p e)
   exact ⟨F',s,L2,λ q z => by cases z; exact pf⟩
theorem rows_on {B : List Row} {g hg : Gr} {cur : Vw} (hB : BOk B) (hr : σ.rows = B ++ flatR hst) (hh : ∀ x ∈ hst,x.1.um = none) (hu : hg.um = none) (er : σ'.rows = (match g.um with | some _ => (σ.rows ++ hg.rows).map (ren σ.sv σ'.sv) | none => σ.rows ++ hg.rows)) :
   ∃ B',BOk B' ∧ addB σ'.rows = B' ++ flatR ((hg,cur) :: hst) := by
 cases e : g.um with
 | none =>
   rw [e] at er
   refine ⟨B,hB, ?_⟩
   rw [er,hr,addB_rows]
   simp [flatR]
 | some u =>
   rw [e] at er
   refine ⟨_,hB.ren σ.sv σ'.sv, ?_⟩
   have er : σ'.rows = (σ.rows ++ hg.rows).map (ren σ.sv σ'.sv) := er
   rw [er,hr,List.map_append,List.map_append,ren_flat _ _ hh,ren_um _ _ hu,addB_rows]
   simp [flatR]
theorem Ud.len {g hg : Gr} {V : Vw} (ud : Ud w H σ t g V σ' H' hg) (hl : σ.ms.length ≤ 2) : σ'.rows.length ≤ σ.rows.length + 6 := by
 have hlen := rows_len ud.rel (by exact hl)
 have er := ud.rows
 cases q : g.um with
 | none => rw [q] at er; rw [er,List.length_append]; exact (ar (.i (.l N0 K6) (.l (.a N1 N0) (.a N1 K6))) 2 [_,_] []) hlen
 | some u =>
   rw [q] at er
   have er : σ'.rows = (σ.rows ++ hg.rows).map _ := er
   rw [er,List.length_map,List.length_append]; exact (ar (.i (.l N0 K6) (.l (.a N1 N0) (.a N1 K6))) 2 [_,_] []) hlen
theorem Pa.step {j : Nat} {x : Gr × Vw} (ok : p.Ok) (h : Pa p j σ H F G c t (x :: st) hst) {hg : Gr} (ud : Ud p.w H σ t x.1 x.2 σ' H' hg) (s : Sb F F') (pf : ∀ q,hg.pc = some q → PF F' q.1 q.2) {H'' : AHeap} (L : Lw p.w p.d { σ' with rows := addB σ'.rows } H'' F' G c) :
   Pa p (j + 1) { σ' with rows := addB σ'.rows } H'' F' G c x.2.t st ((hg,⟨t,σ.ms⟩) :: hst) := by
 have hv := h.sk.vws x (.head _)
 have em := ud.ms
 have eV : (⟨x.2.t,σ'.ms⟩ : Vw) = x.2 := by rw [em]
 have hw2 : σ.ms.length ≤ 2 := by rw [← refs_len,h.rf]; simp
 have hlen := ud.len hw2
 have hrl := h.rl
 have htk := ud.kp.tk
 refine ⟨L,ud.kp.un.trans h.un,⟨ud.ed.txt.of rfl rfl rfl,ud.ed.zv,ud.ed.ok,ud.ed.p1,ud.ed.p2⟩,hv.1,by refine (?_ : refs σ'.ms = _); rw [em]; exact hv.2,s _ _ h.fM,eV ▸ (h.sk.sub s).tail, ?_, ?_,by rw [List.length_cons,h.hl],s _ _ h.fL,s _ _ h.fK,h.sv.sub s,s _ _ h.fT,h.gP, ?_,atB_addB _, ?_,λ e => ?_,λ e => ?_⟩
 · refine (?_ : Sk F' p.MK ⟨x.2.t,σ'.ms⟩ _)
   rw [eV]
   exact (h.hk.sub s).push ud.rel pf h.ht h.rf
 · refine (?_ : p.U = (((hg,(⟨t,σ.ms⟩ : Vw)) :: hst).map (·.2)).reverse ++ ⟨x.2.t,σ'.ms⟩ :: st.map (·.2))
   rw [eV,h.U]; simp
 · obtain ⟨D,e⟩ := h.R
   exact ⟨x.1.rows ++ [.bnd] ++ D,by rw [e]; simp [flatR]⟩
 · refine (?_ : (addB σ'.rows).length ≤ _)
   have a := addB_len σ'.rows
   exact (ar (.i (.l N0 (.a N1 (.m 10 N2))) (.i (.l N3 (.a N4 K1)) (.i (.l N4 (.a N0 K6)) (.l N3 (.a N1 (.m 10 (.a N2 K1))))))) 5 [_,_,_,_,_] []) hrl a hlen
 · obtain ⟨u1,u2,u3,⟨B,u4,u5⟩,u6,dn,u7,u8⟩ := h.f1 e
   have slt := u2 (List.cons_ne_nil _ _)
   have hun : hg.um = none := ud.um.trans (umOf_none slt)
   refine ⟨?_, ?_, ?_,rows_on u4 u5 u6 hun ud.rows, ?_,dn ++ [x],by rw [u7]; simp,by simp [u8]⟩
   · refine (?_ : UmB σ'.sv st)
     cases st with
     | nil => exact trivial
     | cons y l =>
       have e1 : x.1.um = none := u1.1
       have e2 := ud.sv
       rw [e1] at e2
       rw [show σ'.sv = σ.sv from e2]
       exact u1.2
   · intro n0
     refine (?_ : σ'.sv < σ'.tk)
     cases st with
     | nil => exact absurd rfl n0
     | cons y l =>
       have e1 : x.1.um = none := u1.1
       have e2 := ud.sv
       rw [e1] at e2
       have e2 : σ'.sv = σ.sv := e2
       exact (ar (.i (.E Z0 Z1) (.i (.T Z2 Z3) (.i (.T Z1 Z2) (.T Z0 Z3)))) 4 [] [_,_,_,_]) e2 htk slt
   · intro n0
     subst n0
     refine (?_ : σ'.sv = σ'.tk)
     have e1 : x.1.um = some σ.sv := u1.1
     have e2 := ud.sv
     rw [e1] at e2
     exact e2
   · intro y hy
     rcases List.mem_cons.mp hy with rfl | hy
     · exact hun
     · exact u6 y hy
 · obtain ⟨u1,u2,u3⟩ := h.f2 e
   have e1 := u1 x (.head _)
   have e2 := ud.sv
   rw [e1] at e2
   have e2 : σ'.sv = σ.sv := e2
   refine ⟨λ y hy => u1 y (.tail _ hy), ?_,λ _ => ?_⟩
   · refine (?_ : σ'.sv ≤ σ'.tk); exact (ar (.i (.E Z0 Z1) (.i (.L Z1 Z2) (.i (.T Z2 Z3) (.L Z0 Z3)))) 4 [] [_,_,_,_]) e2 u2 htk
   · refine (?_ : σ'.sv < σ'.tk); exact (ar (.i (.E Z0 Z1) (.i (.L Z1 Z2) (.i (.T Z2 Z3) (.T Z0 Z3)))) 4 [] [_,_,_,_]) e2 u2 htk
end

end P_C32

section P_C33
open PySem

section
variable {call : Nat → Fn → List AV → AHeap → (AV → AHeap → Prop) → Prop} {n : Nat} {H H' F F' G : AHeap} {w : Wh} {d : Dk} {σ σ' : Sg} {Q : AV → AHeap → Prop} {t : List Int} {c : Nat} {p : Pw} {st hst : St}
theorem Lp.upd {M S P L K TN : Addr} {fst : Bool} {k : Nat} {ρ : Locals} (h : Lp w d M S P L K TN fst k ρ) (v : AV) : Lp w d M S P L K TN fst k (Mine.upd ρ 9 v) := ⟨h.toLc.upd (Nat.le_refl _) v,h.r10,h.r11,h.r12,h.r13,h.r14⟩
theorem turn2 (C : Calls call) (ok : p.Ok) {j : Nat} {x : Gr × Vw} (hj : j < 100) (h : Pa p j σ H F G c t (x :: st) hst) {ρ : Locals} (lp : Lp p.w p.d p.M p.S p.P p.L p.K p.TN p.fst (p.base ++ flatR (x :: st)).length ρ) (r9 : ρ 9 = some (.int j)) {Q' : SPost}
   (k : ∀ ρ' H' σ' F' c' t' hst',Lp p.w p.d p.M p.S p.P p.L p.K p.TN p.fst (p.base ++ flatR st).length ρ' → Pa p (j + 1) σ' H' F' G c' t' st hst' → Q' .next ρ' H') : mSs (call (n + 11)) loop2 ρ H Q' := by
 obtain ⟨D,hR⟩ := h.R
 have hRl := ok.hR
 have hrl := h.rl
 have hv := h.sk.vws x (.head _)
 have hp := refs_ne ok.nk hv.2
 have hv2 : x.2.ms.length ≤ 2 := by rw [← refs_len,hv.2]; simp
 have htt := h.ht
 have hsv : σ.sv ≤ σ.tk := by
   cases q : p.fst with
   | true => exact Int.le_of_lt ((h.f1 q).2.1 (List.cons_ne_nil _ _))
   | false => exact (h.f2 q).2.1
 have hu : ∀ u,x.1.um = some u → u = σ.sv := by
   intro u e
   cases q : p.fst with
   | true =>
     have a := (h.f1 q).1.1
     cases st with
     | nil => rw [e] at a; exact Option.some.inj a
     | cons y l => rw [e] at a; exact sn a
   | false =>
     have a := (h.f2 q).1 x (.head _)
     rw [e] at a; exact sn a
 have hL := h.lw.kept _ _ (.inl h.fL)
 have hRl2 := congrArg List.length hR
 simp only [flatR,List.length_append,List.length_singleton] at hRl2
 have eat : (p.base ++ flatR (x :: st)).length = ((p.base ++ flatR st) ++ x.1.rows).length + 1 := by simp [flatR]; exact ar (.e (.a N0 (.a N1 (.a N2 K1))) (.a (.a N0 (.a N1 N2)) K1)) 3 [_,_,_] []
 refine s_assignE (e_call (vs := [.ref p.w.b,.ref p.L,.int (p.base ++ flatR (x :: st)).length]) (v_cons lp.toLc.r3 (v_cons lp.r11 (v_cons lp.r13 rfl))) ?_)
 rw [eat]
 refine ud_step (n := n + 1) (A := p.base ++ flatR st) (D := D) (b := 1) (V := x.2) (g := x.1) C h.lw.buf h.un h.ed h.ab hsv h.sk.chain.1 (λ q e => h.lw.pcN (h.sk.pcs x (.head _) q e)) hu hp (by have := hv.1; omega) (by exact (ar (.i (.l N0 (.k 100)) (.l N0 (.k 500))) 1 [_] []) htt) hv2 (by unfold lim; exact (ar (.i (.l N0 (.a N1 (.m 10 N2))) (.i (.l N1 KK) (.i (.t N2 (.k 100)) (.t (.a N0 (.k 60)) KM)))) 3 [_,_,_] []) hrl hRl hj) ?_ hL.2.1 (ok.hb.flat st) ?_ λ H1 σ1 hg ud => ?_
 · rw [hL.1,hR]; simp [flatR]
 · unfold lim; simp only [List.length_append]; exact (ar (.i (.e N0 (.a (.a N1 (.a (.a N2 N3) K1)) N4)) (.i (.l N0 KK) (.t (.a (.a (.a (.a N1 N2) N3) K1) (.k 20)) KM))) 5 [_,_,_,_,_] []) hRl2 hRl
 obtain ⟨F1,s1,L1,pf1⟩ := Ud.cm h.lw ud
 have lp1 : Lp p.w p.d p.M p.S p.P p.L p.K p.TN p.fst (p.base ++ flatR st).length (upd ρ 13 (.int (p.base ++ flatR st).length)) := ⟨lp.toLc.upd (by exact ar (.l K9 (.k 13)) 0 [] []) _,lp.r10,lp.r11,lp.r12,rfl,lp.r14⟩
 have r91 : (upd ρ 13 (.int (p.base ++ flatR st).length)) 9 = some (.int j) := r9
 generalize upd ρ 13 (.int (p.base ++ flatR st).length) = ρ1 at *
 have hv1 : refs σ1.ms = p.MK := by rw [ud.ms]; exact hv.2
 have hUj : p.U[j + 1]? = some x.2 := by
   rw [h.U,List.getElem?_append_right (by simp [h.hl])]
   simp [h.hl]
 obtain ⟨v,ev1,sv1⟩ := h.sv.get (j + 1) hUj
 have hlv : p.uv.length ≤ 1000000 ∨ True := .inr trivial
 refine s_iteE (t_or (a_cons (t_cmp (e_call (vs := [.ref p.w.b,.ref p.M]) (v_cons lp1.toLc.r3 (v_cons lp1.toLc.r4 rfl)) (c_law_state C L1 ud.ed (by rw [s1 _ _ h.fM,hv1]) λ H2 F2 a b L2 s2 fa fb => ?_)))))
 have s12 := s1.trans s2
 obtain ⟨a',b',e',fa',fb'⟩ := sv1.sub s12
 have g2 : ∀ {y o},F2 y = some o → H2 y = some o := λ e => (L2.kept _ _ (.inl e)).1
 have hT := g2 (s12 _ _ h.fT)
 have hnth : nth (p.uv.drop 1) (j : Int) = some v := by
   unfold nth
   rw [if_pos (by exact ar (.L K0 (.u N0)) 1 [_] []),if_pos (by unfold lim; exact (ar (.i (.t N0 (.k 100)) (.T (.u N0) (.u KM))) 1 [_] []) hj),Int.toNat_natCast,List.getElem?_drop,Nat.add_comm]
   exact ev1
 generalize p.uv.drop 1 = tv at hT hnth
 rw [ud.ms] at fb
 refine ev_ok _ (v := v) (by simp [lp1.r12,r91,hT,hnth]) (cmpK_of (r := false) (by rw [e']; exact states_eq (V := x.2) (g2 fa) (g2 fb) (g2 fa') (g2 fb')) ⟨λ _ => ?_,λ z => by exact ft z⟩)
 refine a_cons (t_cmp (ev_ok (.var 11) (v := .ref p.L) lp1.r11 (ev_ok (.var 14) (v := .ref p.K) lp1.r14 (cmpK_of (r := false) (rows_eq ok.nLK (g2 (s12 _ _ h.fL)) (g2 (s12 _ _ h.fK))) ⟨λ _ => a_nil ⟨λ z => (by exact ft z),λ _ => s_back ?_⟩,λ z => (by exact ft z)⟩))))
 have hb2 := L2.buf.b
 have hu2 := L2.buf.u (ud.kp.un.trans h.un)
 refine s_skip ?_ ?_
 · cases q : p.fst with
   | false => simp [lp1.r10,q,agn]
   | true =>
     obtain ⟨dn,e1,e2⟩ := (h.f1 q).2.2.2.2.2
     have epv := ok.pv q
     have hP := (L2.kept _ _ (.inr h.gP)).1
     have hn := ok.hn
     rw [e1,List.length_append,List.length_cons] at hn
     have en : p.ps.length = j + 1 + st.length := by rw [epv]; simp [ptsOf,e1,e2]; exact ar (.e (.a N0 (.a N1 K1)) (.a (.a N1 K1) N0)) 2 [_,_] []
     have hpt : nth p.ps ((p.ps.length : Int) - 1 - j) = some (.int (x.1.back (x.2.t.length + 1))) := by
       rw [en,show ((j + 1 + st.length : Nat) : Int) - 1 - j = (st.length : Nat) by exact ar (.E (.s (.s (.u (.a (.a N0 K1) N1)) K1) (.u N0)) (.u N1)) 2 [_,_] []]
       unfold nth
       rw [if_pos (by exact ar (.L K0 (.u N0)) 1 [_] []),if_pos ?_,Int.toNat_natCast,epv,e1]
       · simp [ptsOf]
       · unfold lim; exact (ar (.i (.l (.a N0 (.a N1 K1)) (.k 100)) (.T (.u N1) (.u KM))) 2 [_,_] []) hn
     have hpl : p.ps.length ≤ lim := by unfold lim; exact (ar (.i (.e N0 (.a (.a N1 K1) N2)) (.i (.e N3 N1) (.i (.l (.a N3 (.a N2 K1)) (.k 100)) (.l N0 KM)))) 4 [_,_,_,_] []) en e2 hn
     have ept : σ1.pt = x.1.back (x.2.t.length + 1) := by rw [ud.pt,ud.ed.zv]
     simp [lp1.r10,q,agn,lp1.r3,hb2,lp1.r7,hP,hpl,r91,hpt,ept]
 refine s_expr (e_meth (x := p.w.u) lp1.toLc.r8 hu2 rfl rfl (vs := []) rfl (c_ul_boundary C L2.buf (ud.kp.un.trans h.un) ?_ λ H3 Y3 => ?_))
 · have := ud.len (by rw [← refs_len,h.rf]; simp)
   unfold lim; exact (ar (.i (.l N0 (.a N1 (.m 10 N2))) (.i (.l N3 (.a N0 K6)) (.i (.l N1 KK) (.i (.t N2 (.k 100)) (.t N3 KM))))) 4 [_,_,_,_] []) hrl this hRl hj
 exact k _ _ _ _ _ _ _ lp1 (h.step ok ud s12 (λ q e => (pf1 q e).sub s2) (L2.go Y3))
end

end P_C33

section P_C34
open PySem

structure Po (w : Wh) (d : Dk) (M S P k1 k2 : Addr) (fst : Bool) (σ : Sg) (H F G : AHeap) (c : Nat) (t : List Int) (st : St) (ss ps : List AV) : Prop where
 lw : Lw w d σ H F G c
 un : σ.un = true
 ed : Ed σ t
 ht : t.length ≤ 100
 rf : refs σ.ms = [.ref k1,.ref k2]
 fM : F M = some (.list [.ref k1,.ref k2])
 sk : Sk F [.ref k1,.ref k2] ⟨t,σ.ms⟩ st
 rows : ∃ base,BOk base ∧ σ.rows = base ++ flatR st
 rl : σ.rows.length ≤ (if fst = true then 100 else 300)
 n0 : st ≠ []
 sl : st.length ≤ 10
 gS : G S = some (.list ss)
 gP : G P = some (.list ps)
 sv : SVs F (if fst = true then ss.reverse else ss) (⟨t,σ.ms⟩ :: st.map (·.2))
 pv : fst = true → ps = (ptsOf st).reverse
 f1 : fst = true → UmB σ.sv st ∧ σ.sv < σ.tk
 f2 : fst = false → (∀ x ∈ st,x.1.um = none) ∧ σ.sv ≤ σ.tk
noncomputable def fin2 : ME := .or [(.and [(.cmp .eq (.var 10) (.int 0)),(.meth (.var 3) .is_modified [])]),(.and [(.cmp .eq (.var 10) (.int 1)),(.not (.meth (.var 3) .is_modified []))])]
noncomputable def pass : List MS := [.assignN [11,12] [(.list (.attr (.var 8) .rows)),(.ife (.cmp .eq (.var 10) (.int 0)) (.slice (.rev (.var 6)) (some (.int 1)) none) (.slice (.var 6) (some (.int 1)) none))],.assignN [13,14] [(.len (.var 11)),(.list (.var 11))],.forRange 9 (.len (.var 12)) loop2,.ite fin2 [.ret (some (.bool false))] []]
section
variable {call : Fn → List AV → AHeap → (AV → AHeap → Prop) → Prop} {H : AHeap} {ρ : Locals}
theorem e_rev {e : ME} {x : Addr} {xs : List AV} {P : AV → AHeap → Prop} (he : ev H ρ e = some (.ref x)) (hx : H x = some (.list xs)) (hl : xs.length ≤ lim) (h : ∀ y,H y = none → P (.ref y) (H.set y (.list xs.reverse))) : mE call (.rev e) ρ H P := by
 refine ev_ok e he ?_
 refine (?_ : (match H x with | some (.list xs) => xs.length ≤ lim ∧ fresh H (.list xs.reverse) P | _ => False))
 rw [hx]; exact ⟨hl,h⟩
theorem ev_len_of {e : ME} {x : Addr} {xs : List AV} (he : ev H ρ e = some (.ref x)) (hx : H x = some (.list xs)) (hl : xs.length ≤ lim) : ev H ρ (.len e) = some (.int xs.length) := by
 rw [ev_len,he]; simp only [hx]; rw [if_pos hl]
noncomputable def cutK (P : AV → AHeap → Prop) (u : AV) (H₃ : AHeap) : Prop := match u,partOk (some (.int 1)),partOk Option.none with
   | .ref x,some l,some h => (match seqAt H₃ x with | some xs => xs.length ≤ 16000000 ∧ fresh H₃ (.list (cutv xs l h)) P | none => False)
   | _,_,_ => False
theorem e_cut1 {e : ME} {P : AV → AHeap → Prop} (h : mE call e ρ H (cutK P)) : mE call (.slice e (some (.int 1)) Option.none) ρ H P := h
theorem cutK_of {x : Addr} {xs : List AV} {P : AV → AHeap → Prop} (hx : H x = some (.list xs)) (hl : xs.length ≤ 1000) (h : ∀ y,H y = none → P (.ref y) (H.set y (.list (xs.drop 1)))) : cutK P (.ref x) H := by
 have e1 : partOk (some (.int 1)) = some (some 1) := rfl
 have e2 : partOk Option.none = some Option.none := rfl
 have e3 : seqAt H x = some xs := by unfold seqAt; rw [hx]
 unfold cutK
 rw [e1,e2]
 simp only [e3]
 exact ⟨by exact (ar (.i (.l N0 KK) (.l N0 (.k 16000000))) 1 [_] []) hl,h⟩
theorem not_meth {e : ME} {o : ME} {a : At} {as : List ME} (he : e = .meth o a as) {K : Bool → AHeap → Prop} {b : Bool} (h : mE call e ρ H λ v H' => match v with | .bool b => K (!b) H' | _ => False) : mT call (.not e) (mE call (.not e) ρ H) ρ H K := by subst he; exact h
end
section
variable {call : Nat → Fn → List AV → AHeap → (AV → AHeap → Prop) → Prop} {n : Nat} {H H' F F' G : AHeap} {w : Wh} {d : Dk} {σ σ' : Sg} {Q : AV → AHeap → Prop} {t : List Int} {c : Nat} {M S P k1 k2 : Addr} {fst : Bool} {st hst : St} {ss ps : List AV}
theorem fin_ok (C : Calls call) (B : Buf H w σ) {ρ : Locals} (r3 : ρ 3 = some (.ref w.b)) (r10 : ρ 10 = some (.int (agn fst))) (f1 : fst = true → σ.sv = σ.tk) (f2 : fst = false → σ.sv < σ.tk) {K : Bool → AHeap → Prop} (h : K false H) : mT (call (n + 1)) fin2 (mE (call (n + 1)) fin2 ρ H) ρ H K := by
 have hb := B.b
 have t1 : ∀ {i : Int} {K : Bool → AHeap → Prop},K (agn fst == i) H → mT (call (n + 1)) (.cmp .eq (.var 10) (.int i)) (mE (call (n + 1)) (.cmp .eq (.var 10) (.int i)) ρ H) ρ H K := λ {i K} q => evT_ok _ (b := (agn fst == i)) (by simp [r10]) q
 have mm : ∀ {P : AV → AHeap → Prop},P (.bool (decide (σ.sv < σ.tk))) H → mE (call (n + 1)) (.meth (.var 3) .is_modified []) ρ H P := λ q => e_meth (x := w.b) (by assumption) hb rfl rfl (vs := []) rfl (c_is_modified C B q)
 cases fst with
 | true =>
   have e : decide (σ.sv < σ.tk) = false := decide_eq_false (by have := f1 rfl; exact (ar (.i (.E Z0 Z1) (.i (.T Z0 Z1) .f)) 2 [] [_,_]) this)
   rw [e] at mm
   refine t_or (a_cons (t_and (a_cons (t1 ⟨λ _ => a_cons (mm ⟨λ z => (by exact ft z),λ _ => ⟨λ _ => ?_,λ z => (by exact ft z)⟩⟩),λ z => (by exact tf z)⟩))))
   exact a_cons (t_and (a_cons (t1 ⟨λ z => (by exact ft z),λ _ => ⟨λ _ => a_nil h,λ z => (by exact ft z)⟩⟩)))
 | false =>
   have e : decide (σ.sv < σ.tk) = true := decide_eq_true (f2 rfl)
   rw [e] at mm
   refine t_or (a_cons (t_and (a_cons (t1 ⟨λ z => (by exact ft z),λ _ => ⟨λ _ => ?_,λ z => (by exact ft z)⟩⟩))))
   refine a_cons (t_and (a_cons (t1 ⟨λ _ => a_cons ?_,λ z => (by exact tf z)⟩)))
   refine not_meth rfl (b := true) (mm ⟨λ z => (by exact ft z),λ _ => ⟨λ _ => a_nil h,λ z => (by exact ft z)⟩⟩)
theorem one_pass (C : Calls call) (h : Po w d M S P k1 k2 fst σ H F G c t st ss ps) (nk : k1 ≠ k2) {ρ : Locals} (lc : Lc w d M S P ρ) (r10 : ρ 10 = some (.int (agn fst))) {Q' : SPost}
   (k : ∀ ρ' H' σ' F' c' t' st',Lc w d M S P ρ' → (fst = true → Po w d M S P k1 k2 false σ' H' F' G c' t' st' ss ps) → Q' .next ρ' H') : mSs (call (n + 11)) pass ρ H Q' := by
 obtain ⟨base,hbase,hrows⟩ := h.rows
 have B := h.lw.buf
 have hu := B.u h.un
 have hul := B.ul h.un
 have hrl := h.rl
 have hrl3 : σ.rows.length ≤ 300 := by split at hrl <;> (first | exact (ar (.i (.l N0 (.k 100)) (.l N0 (.k 300))) 1 [_] []) hrl | exact (ar (.i (.l N0 (.k 300)) (.l N0 (.k 300))) 1 [_] []) hrl)
 have hsl := h.sl
 have hss : ss.length = st.length + 1 := by
   have := h.sv.len
   split at this <;> simpa using this
 refine s_assignNE (es_consE (e_list (y := σ.ul) (xs := σ.rows.map Row.av) (v_at lc.r8 hu rfl) hul (by unfold lim; simp; exact (ar (.i (.l N0 (.k 300)) (.l N0 KM)) 1 [_] []) hrl3) λ L hL0 => ?_))
 obtain ⟨L1,s1⟩ := h.lw.new (o := .list (σ.rows.map Row.av)) hL0
 have fL1 : (F.set L (.list (σ.rows.map Row.av))) L = some (.list (σ.rows.map Row.av)) := at_self
 generalize F.set L (.list (σ.rows.map Row.av)) = F1 at *
 generalize H.set L (.list (σ.rows.map Row.av)) = H1 at *
 generalize huv : (if fst = true then ss.reverse else ss) = uv at *
 have hS1 := (L1.kept _ _ (.inr h.gS)).1
 have hsv := h.sv
 rw [huv] at hsv
 have tail : ∀ H2 TN F2,Lw w d σ H2 F2 G c → Sb F1 F2 → F2 TN = some (.list (uv.drop 1)) → mSs (call (n + 11)) [.assignN [13,14] [(.len (.var 11)),(.list (.var 11))],.forRange 9 (.len (.var 12)) loop2,.ite fin2 [.ret (some (.bool false))] []] (upds ρ [11,12] [.ref L,.ref TN]) H2 Q' := by
   intro H2 TN F2 L2 s2 fT
   have hL2 := (L2.kept _ _ (.inl (s2 _ _ fL1))).1
   have hrr : σ.rows.length ≤ lim := by unfold lim; exact (ar (.i (.l N0 (.k 300)) (.l N0 KM)) 1 [_] []) hrl3
   refine s_assignNE (es_cons (v := .int σ.rows.length) (v_ln rfl hL2 (List.length_map _) hrr) (es_consE (e_list (y := L) (xs := σ.rows.map Row.av) (by rfl) hL2 (by simpa using hrr) λ K hK0 => ⟨rfl, ?_⟩)))
   have nLK := ne_new hL2 hK0
   obtain ⟨L3,s3⟩ := L2.new (o := .list (σ.rows.map Row.av)) hK0
   have fK3 : (F2.set K (.list (σ.rows.map Row.av))) K = some (.list (σ.rows.map Row.av)) := at_self
   generalize F2.set K (.list (σ.rows.map Row.av)) = F3 at *
   generalize H2.set K (.list (σ.rows.map Row.av)) = H3 at *
   have s03 : Sb F F3 := s1.trans (s2.trans s3)
   have fT3 := s3 _ _ fT
   have hT3 := (L3.kept _ _ (.inl fT3)).1
   have huvl : uv.length = st.length + 1 := by rw [← huv]; split <;> simp [hss]
   have hdl : (uv.drop 1).length = st.length := by rw [List.length_drop,huvl]; exact ar (.e (.s (.a N0 K1) K1) N0) 1 [_] []
   have lp0 : Lp w d M S P L K TN fst (base ++ flatR st).length (upds (upds ρ [11,12] [.ref L,.ref TN]) [13,14] [.int σ.rows.length,.ref K]) :=
     ⟨(((lc.upd (x := 11) (by exact ar (.l K9 (.k 11)) 0 [] []) _).upd (x := 12) (by exact ar (.l K9 (.k 12)) 0 [] []) _).upd (x := 13) (by exact ar (.l K9 (.k 13)) 0 [] []) _).upd (x := 14) (by exact ar (.l K9 (.k 14)) 0 [] []) _,r10,rfl,rfl,by rw [← hrows]; rfl,rfl⟩
   refine (?_ : mSs _ _ (upds (upds ρ [11,12] [.ref L,.ref TN]) [13,14] [.int σ.rows.length,.ref K]) H3 Q')
   generalize (upds (upds ρ [11,12] [.ref L,.ref TN]) [13,14] [.int σ.rows.length,.ref K]) = ρ3 at *
   have ok : Pw.Ok ⟨w,d,M,S,P,L,K,TN,k1,k2,fst,⟨t,σ.ms⟩ :: st.map (·.2),st,base,σ.rows,uv,ps⟩ := ⟨hbase,by refine (?_ : σ.rows.length ≤ 1000); exact (ar (.i (.l N0 (.k 300)) (.l N0 KK)) 1 [_] []) hrl3,nk,nLK,h.pv,by refine (?_ : st.length ≤ 100); exact (ar (.i (.l N0 (.k 10)) (.l N0 (.k 100))) 1 [_] []) hsl⟩
   have p0 : Pa ⟨w,d,M,S,P,L,K,TN,k1,k2,fst,⟨t,σ.ms⟩ :: st.map (·.2),st,base,σ.rows,uv,ps⟩ 0 σ H3 F3 G c t st [] := by
     refine ⟨L3,h.un,h.ed,h.ht,h.rf,s03 _ _ h.fM,h.sk.sub s03,⟨trivial,nilm,nilm⟩,rfl,rfl,s3 _ _ (s2 _ _ fL1),fK3,hsv.sub s03,fT3,h.gP,⟨[],by simpa using hrows⟩, ?_,by simp,λ e => ?_,λ e => ?_⟩
     · rw [hrows]; exact (hbase.flat st).at
     · obtain ⟨a,b⟩ := h.f1 e
       exact ⟨a,λ _ => b,λ z => absurd z h.n0,⟨σ.rows,by rw [hrows]; exact hbase.flat st,by simp [flatR]⟩,nilm,[],rfl,rfl⟩
     · obtain ⟨a,b⟩ := h.f2 e
       exact ⟨a,b,λ z => absurd rfl z⟩
   generalize hp : (⟨w,d,M,S,P,L,K,TN,k1,k2,fst,⟨t,σ.ms⟩ :: st.map (·.2),st,base,σ.rows,uv,ps⟩ : Pw) = p at *
   have lens : ∀ {j σ' H' F' c' t' st' hst},Pa p j σ' H' F' G c' t' st' hst → st.length = j + st'.length := λ q => by
     have a := congrArg List.length q.U
     rw [← hp] at a
     have b := q.hl
     simp at a
     exact (ar (.i (.e (.a N0 K1) (.a N1 (.a N2 K1))) (.i (.e N1 N3) (.e N0 (.a N3 N2)))) 4 [_,_,_,_] []) a b
   refine s_forRE (ev_ok (.len (.var 12)) (v := .int st.length) (by rw [ev_len_of (x := TN) (by simp [lp0.r12]) hT3 (by unfold lim; exact (ar (.i (.e N0 N1) (.i (.l N1 (.k 10)) (.l N0 KM))) 2 [_,_] []) hdl hsl),hdl]) ?_)
   refine forK_of (λ j ρ H => ∃ σ' F' c' t' st' hst,Lp w d M S P L K TN fst (base ++ flatR st').length ρ ∧ Pa p j σ' H F' G c' t' st' hst) (m := st.length) rfl (by exact (ar (.i (.l N0 (.k 10)) (.l N0 KK)) 1 [_] []) hsl) ⟨σ,F3,c,t,st,[],lp0,p0⟩ (λ j hj ρ' H' I Q' kk => ?_) (λ ρ' H' I => ?_)
   · obtain ⟨σ',F',c',t',st',hst,lp,pa⟩ := I
     have hl := lens pa
     cases st' with
     | nil => simp at hl; omega
     | cons x l =>
       subst hp
       exact turn2 C ok (by exact (ar (.i (.e N0 (.a N1 N2)) (.i (.l N0 (.k 10)) (.t N1 (.k 100)))) 3 [_,_,_] []) hl hsl) pa (lp.upd _) rfl λ ρ'' H'' σ'' F'' c'' t'' hst'' lp' pa' => kk ρ'' H'' ⟨σ'',F'',c'',t'',l,hst'',lp',pa'⟩
   · obtain ⟨σ',F',c',t',st',hst,lp,pa⟩ := I
     have hl := lens pa
     obtain rfl : st' = [] := List.eq_nil_of_length_eq_zero (by exact (ar (.i (.e N0 (.a N0 N1)) (.e N1 K0)) 2 [_,_] []) hl)
     have hhl := pa.hl
     have hn0 : hst ≠ [] := λ z => h.n0 (List.eq_nil_of_length_eq_zero (by rw [← hhl,z]; rfl))
     have pf1 := pa.f1
     have pf2 := pa.f2
     have pU := pa.U
     have psv := pa.sv
     have prl := pa.rl
     have prf := pa.rf
     have pfM := pa.fM
     have phk := pa.hk
     have plw := pa.lw
     subst hp
     refine s_iteE (fin_ok C plw.buf lp.r3 lp.r10 (λ e => (pf1 e).2.2.1 rfl) (λ e => (pf2 e).2.2 hn0) ⟨λ z => (by exact ft z),λ _ => s_back (k ρ' H' σ' F' c' t' hst lp.toLc λ e => ?_)⟩)
     obtain ⟨-,-,q3,⟨B',q4,q5⟩,q6,-⟩ := pf1 e
     have e' : fst = true := e
     subst e'
     refine ⟨plw,pa.un,pa.ed,pa.ht,prf,pfM,phk,⟨B',q4,q5⟩, ?_,hn0,by rw [hhl]; exact hsl,h.gS,h.gP, ?_,ft,ft,λ _ => ⟨q6,by rw [q3 rfl]; exact ar (.L Z0 Z0) 1 [] [_]⟩⟩
     · have prl : σ'.rows.length ≤ σ.rows.length + 10 * st.length := prl
       have hrl : σ.rows.length ≤ 100 := hrl
       refine (?_ : σ'.rows.length ≤ 300)
       exact (ar (.i (.l N0 (.a N1 (.m 10 N2))) (.i (.l N2 (.k 10)) (.i (.l N1 (.k 100)) (.l N0 (.k 300))))) 3 [_,_,_] []) prl hsl hrl
     · have huv : ss.reverse = uv := huv
       have psv : SVs F' uv _ := psv
       have pU : _ = _ := pU
       rw [pU,← huv] at psv
       have := psv.rev
       rw [List.reverse_reverse] at this
       simpa using this
 refine es_consE ?_
 cases fst with
 | true =>
   refine e_ife (p := true) (w_cmp r10 rfl rfl) (λ _ => ?_) λ z => by exact tf z
   refine e_cut1 (e_rev (x := S) lc.r6 hS1 (by unfold lim; exact (ar (.i (.e N0 (.a N1 K1)) (.i (.l N1 (.k 10)) (.l N0 KM))) 2 [_,_] []) hss hsl) λ y hy => ?_)
   obtain ⟨L2,s2⟩ := L1.new (o := .list ss.reverse) hy
   refine cutK_of at_self (by simp; exact (ar (.i (.e N0 (.a N1 K1)) (.i (.l N1 (.k 10)) (.l N0 KK))) 2 [_,_] []) hss hsl) λ z hz => ?_
   obtain ⟨L3,s3⟩ := L2.new (o := .list (ss.reverse.drop 1)) hz
   refine ⟨rfl,tail _ z _ L3 (s2.trans s3) (huv ▸ at_self)⟩
 | false =>
   refine e_ife (p := false) (w_cmp r10 rfl rfl) (λ z => by exact ft z) λ _ => ?_
   refine e_cut1 (ev_ok (.var 6) (v := .ref S) lc.r6 (cutK_of hS1 (by exact (ar (.i (.e N0 (.a N1 K1)) (.i (.l N1 (.k 10)) (.l N0 KK))) 2 [_,_] []) hss hsl) λ z hz => ?_))
   obtain ⟨L3,s3⟩ := L1.new (o := .list (ss.drop 1)) hz
   refine ⟨rfl,tail _ z _ L3 s3 (huv ▸ at_self)⟩
end

end P_C34

section P_C35
open PySem

noncomputable def law1 : List MS := [.assign 1 (.call .deck [(.var 0)]),
 .assign 2 (.call .draw [(.var 1),(.int 9)]),
 .assign 3 (.call .law_buffer [(.listRange (.var 2)),(.bin .add (.int 1) (.call .draw [(.var 1),(.bin .add (.var 2) (.int 1))]))])]
noncomputable def law2 : List MS := [.assign 4 (.lst [(.new .marker [(.int 1),(.cmp .eq (.call .draw [(.var 1),(.int 2)]) (.int 0))]),(.new .marker [(.int 2),(.bool true)])]),
 .forList [5] true (.var 4) [.expr (.call .set_marker [(.var 5),(.var 3),(.bin .add (.int 1) (.call .draw [(.var 1),(.bin .add (.var 2) (.int 1))]))])]]
noncomputable def law3 : List MS := [.assignN [6,7,8] [(.lst [(.call .law_state [(.var 3),(.var 4)])]),(.lst []),(.attr (.attr (.var 3) .undo) .list)],
 .forRange 9 (.bin .add (.int 2) (.call .draw [(.var 1),(.int 4)])) loop1,
 .expr (.meth (.var 8) .boundary []),
 .forRange 10 (.int 2) pass,
 .ret (some (.bool true))]
noncomputable abbrev emp : AHeap := λ _ => none
theorem law_parts : b_law = law1 ++ (law2 ++ law3) := rfl
section
variable {call : Fn → List AV → AHeap → (AV → AHeap → Prop) → Prop} {H : AHeap} {ρ : Locals}
noncomputable def lrK (P : AV → AHeap → Prop) (v : AV) (H' : AHeap) : Prop := match v with
   | .int n => 0 ≤ n ∧ n ≤ lim ∧ fresh H' (.list ((List.range n.toNat).map λ (i : Nat) => .int (i : Int))) P
   | _ => False
theorem e_listRange {e : ME} {v : Int} {P : AV → AHeap → Prop} (he : ev H ρ e = some (.int v)) (h0 : 0 ≤ v) (h1 : v ≤ 1000) (h : ∀ x,H x = none → P (.ref x) (H.set x (.list (il ((List.range v.toNat).map λ (i : Nat) => (i : Int)))))) : mE call (.listRange e) ρ H P := by
 refine ev_ok (Q := lrK P) e he ⟨h0,by unfold lim; exact (ar (.i (.L Z0 KK) (.L Z0 (.u KM))) 1 [] [_]) h1,λ x hx => ?_⟩
 have := h x hx
 rw [show il ((List.range v.toNat).map λ (i : Nat) => (i : Int)) = (List.range v.toNat).map λ (i : Nat) => AV.int (i : Int) by simp] at this
 exact this
theorem e_cmpK {op : Cop} {a b : ME} {P : AV → AHeap → Prop} (h : mE call a ρ H λ u H₁ => mE call b ρ H₁ λ v H₂ => cmpK op u v (λ r H => P (.bool r) H) H₂) : mE call (.cmp op a b) ρ H P := h
theorem e_lstE {es : List ME} {P : AV → AHeap → Prop} (h : mEs call es ρ H λ vs H' => ∀ x,H' x = none → P (.ref x) (H'.set x (.list vs))) : mE call (.lst es) ρ H P := h
end
section
variable {call : Nat → Fn → List AV → AHeap → (AV → AHeap → Prop) → Prop} {n : Nat} {H H' F F' G : AHeap} {w : Wh} {d : Dk} {σ σ' : Sg} {Q : AV → AHeap → Prop} {t : List Int} {c : Nat} {M S P k1 k2 : Addr} {fst : Bool} {st hst : St} {ss ps : List AV} {Qs : SPost}
theorem Dek.sub (X : Dek H d c) (s : Sb H H') : Dek H' d c := X.keep λ a o e _ => s _ _ e
theorem law_1 (C : Calls call) {s : Addr} {l : List Int} (hs : H s = some (.flist (il l))) (hl : l.length ≤ 63) (hss : List MS)
   (h : ∀ H' w d σ m ρ',Lw w d σ H' emp emp 2 → σ.un = true → Ed σ m → m.length ≤ 8 → σ.rows = [] → σ.nt = none → σ.sv = σ.tk → σ.ms = [] → ρ' 1 = some (.ref d.D) → ρ' 2 = some (.int m.length) → ρ' 3 = some (.ref w.b) → mSs (call (n + 12)) hss ρ' H' Qs) :
   mSs (call (n + 12)) (law1 ++ hss) (argL [.ref s]) H Qs := by
 refine s_assignE (e_call (vs := [.ref s]) (by rfl) (c_deck C hs hl λ d H1 X1 s1 n1 n2 => ?_))
 refine s_assignE (e_call (vs := [.ref d.D,.int 9]) (by rfl) (c_draw C X1 (by decide) (by decide) (by decide) λ m H2 m1 m2 X2 k2 => ?_))
 refine s_assignE (e_callE (es_consE (e_listRange (v := m) (by rfl) m1 (by exact (ar (.i (.T Z0 K9) (.L Z0 KK)) 1 [] [_]) m2) λ x hx => ?_)))
 have X3 := X2.sub (Sb.new (o := .list (il ((List.range m.toNat).map λ (i : Nat) => (i : Int)))) hx)
 have hx3 : (H2.set x (.list (il ((List.range m.toNat).map λ (i : Nat) => (i : Int))))) x = some (.list (il ((List.range m.toNat).map λ (i : Nat) => (i : Int)))) := at_self
 generalize hq : (List.range m.toNat).map (λ (i : Nat) => (i : Int)) = q at *
 have hql : (q.length : Int) = m := by rw [← hq]; simp; exact (ar (.i (.L K0 Z0) (.E (.o Z0 K0) Z0)) 1 [] [_]) m1
 obtain ⟨⟨l1,e1⟩,⟨l2,e2⟩,-⟩ := X2.live
 have nx1 := (ne_new e1 hx).symm
 have nx2 := (ne_new e2 hx).symm
 generalize H2.set x (.list (il q)) = H3 at *
 refine es_consE (e_bin (ev_ok (.int 1) rfl (e_call (vs := [.ref d.D,.int (m + 1)]) (by rfl) (c_draw C X3 (by exact (ar (.i (.E (.u N0) Z0) (.T K0 (.a Z0 K1))) 1 [_] [_]) hql) (by exact (ar (.i (.T Z0 K9) (.T (.a Z0 K1) KK)) 1 [] [_]) m2) (by decide) λ p H4 p1 p2 X4 k4 => ?_))))
 refine (?_ : call (n + 12) .law_buffer [.ref x,.int (1 + p)] H4 _)
 have hx4 := k4 _ _ hx3 nx1 nx2
 refine c_law_buffer C hx4 (by exact (ar (.i (.E (.u N0) Z0) (.i (.T Z0 K9) (.l N0 (.k 100)))) 1 [_] [_]) hql m2) λ H5 w σ made => ?_
 have ext := made.ext
 obtain ⟨⟨l1',e1'⟩,⟨l2',e2'⟩,⟨l3',e3'⟩⟩ := X4.live
 exact h H5 w d σ q _ ⟨made.buf,(X4.keep λ a o e _ => (ext a o e).1).sub (λ _ _ e => e),(ext _ _ e1').2,(ext _ _ e2').2,(ext _ _ e3').2,λ a o e => (by rcases e with e | e <;> exact nn e),λ _ _ e => by exact nn e⟩ made.un made.ed (by exact (ar (.i (.E (.u N0) Z0) (.i (.T Z0 K9) (.l N0 K8))) 1 [_] [_]) hql m2) made.rows made.nt made.sv made.ms rfl (by rw [hql]; rfl) rfl
theorem Lw.put (L : Lw w d σ H F G c) {k : Addr} {o : AO} (hk : F k = some o) (x : Put w k σ H σ' H') : Lw w d σ' H' (λ a => if a = k then none else F a) G c := by
 obtain ⟨k0,k1,k2,k3,k4⟩ := L.kept _ _ (.inl hk)
 obtain ⟨⟨l1,e1⟩,⟨l2,e2⟩,⟨l3,e3⟩⟩ := L.dek.live
 refine ⟨x.buf,L.dek.keep λ a o e h => ?_,(x.ext _ _ e1 L.o1 k2.symm).2,(x.ext _ _ e2 L.o2 k3.symm).2,(x.ext _ _ e3 L.o3 k4.symm).2,λ a o e => ?_,λ a o e => ?_⟩
 · rcases h with rfl | rfl | rfl
   · exact (x.ext _ _ e L.o1 k2.symm).1
   · exact (x.ext _ _ e L.o2 k3.symm).1
   · exact (x.ext _ _ e L.o3 k4.symm).1
 · have nk : a ≠ k := λ z => by
     subst z
     rcases e with e | e
     · rw [if_pos rfl] at e; exact nn e
     · rw [L.dis _ _ hk] at e; exact nn e
   obtain ⟨a0,a1,a2⟩ := L.kept a o (e.imp (λ e => by rw [if_neg nk] at e; exact e) λ e => e)
   exact ⟨(x.ext _ _ a0 a1 nk).1,(x.ext _ _ a0 a1 nk).2,a2⟩
 · by_cases z : a = k
   · rw [if_pos z] at e; exact nn e
   · rw [if_neg z] at e; exact L.dis a o e
theorem new_marker (C : Calls call) (L : Lw w d σ H F G c) {num : Int} {adv : Bool} {P : Addr → AHeap → Prop} (h : ∀ x dx H',Lw w d σ H' (F.set x (.inst .marker 4 dx (mkF ⟨x,dx,num,adv,.none,0⟩))) G c → F x = none → P x H') :
   ∀ x d,H x = none → H d = none → x ≠ d → call (n + 1) (initOf .marker) [.ref x,.int num,.bool adv] (H.set x (.inst .marker 0 d λ _ => none)) λ r H'' => r = .none ∧ P x H'' := by
 intro x dx hx _ _
 refine c_marker_init C at_self λ H1 h1 k1 => ⟨rfl, ?_⟩
 have L1 := L.mono (k1.sub hx)
 exact h x dx H1 (L.add L1 hx h1 (L.buf.new hx)).1 (L.fresh hx).1
theorem put_marker (C : Calls call) (L : Lw w d σ H F G c) (X : Ed σ t) {r : Mk} (fr : F r.k = some (.inst .marker 4 r.dk (mkF r))) (hb : r.buf = .none) (nn : ∀ q ∈ σ.ms,q.num ≠ r.num) (ok : ∀ r',r'.num = r.num → MsOk (σ.ms ++ [r'])) {p : Int} {P : AV → AHeap → Prop}
   (h : ∀ r' H',r'.k = r.k → r'.num = r.num → Lw w d { σ with ms := σ.ms ++ [r'] } H' (λ a => if a = r.k then none else F a) G c → Ed { σ with ms := σ.ms ++ [r'] } t → P .none H') : call (n + 4) .set_marker [.ref r.k,.ref w.b,.int p] H P := by
 obtain ⟨k0,k1,-⟩ := L.kept _ _ (.inl fr)
 exact c_set_marker C L.buf X.txt k0 hb k1 nn (ms_le2 X.ok) λ H' x => h { r with buf := .ref w.b,pos := min (max p 1) (t.length + 1) } H' rfl rfl (L.put fr x) ⟨X.txt.of rfl rfl rfl,X.zv,ok _ rfl,X.p1,X.p2⟩
theorem law_2 (C : Calls call) (L : Lw w d σ H emp emp 2) (un : σ.un = true) (X : Ed σ t) (ht : t.length ≤ 8) (hms : σ.ms = []) {ρ : Locals} (r1 : ρ 1 = some (.ref d.D)) (r2 : ρ 2 = some (.int t.length)) (r3 : ρ 3 = some (.ref w.b)) (hss : List MS)
   (h : ∀ H' F M k1 k2 ms c ρ',Lw w d { σ with ms := ms } H' F emp c → c ≤ 20 → Ed { σ with ms := ms } t → F M = some (.list [.ref k1,.ref k2]) → refs ms = [.ref k1,.ref k2] → k1 ≠ k2 → ρ' 1 = some (.ref d.D) → ρ' 3 = some (.ref w.b) → ρ' 4 = some (.ref M) → mSs (call (n + 12)) hss ρ' H' Qs) :
   mSs (call (n + 12)) (law2 ++ hss) ρ H Qs := by
 refine s_assignE (e_lstE (es_consE (e_newE (es_cons (v := .int 1) rfl (es_consE (e_cmpK (e_call (vs := [.ref d.D,.int 2]) (v_cons r1 rfl) (l_draw C L (by decide) (by decide) (by decide) λ v H1 v1 v2 L1 => ev_ok (.int 0) rfl (cmpK_of (r := (v == 0)) rfl (es_nil ?_))))))))))
 refine new_marker (n := n + 11) C L1 λ x dx H2 L2 fx => ?_
 have fx2 : (emp.set x (.inst .marker 4 dx (mkF ⟨x,dx,1,v == 0,.none,0⟩))) x = _ := at_self
 generalize (emp.set x (.inst .marker 4 dx (mkF ⟨x,dx,1,v == 0,.none,0⟩))) = F2 at *
 refine es_consE (e_new (C := .marker) (vs := [.int 2,.bool true]) rfl ?_)
 refine new_marker (n := n + 11) C L2 λ y dy H3 L3 fy => ?_
 have nxy : x ≠ y := λ z => by rw [z,fy] at fx2; exact nn fx2
 have fx3 : (F2.set y (.inst .marker 4 dy (mkF ⟨y,dy,2,true,.none,0⟩))) x = _ := at_other fx2 nxy
 have fy3 : (F2.set y (.inst .marker 4 dy (mkF ⟨y,dy,2,true,.none,0⟩))) y = _ := at_self
 generalize (F2.set y (.inst .marker 4 dy (mkF ⟨y,dy,2,true,.none,0⟩))) = F3 at *
 intro M hM
 have fM := (L3.fresh hM).1
 obtain ⟨L4,s4⟩ := L3.new (o := .list [.ref x,.ref y]) hM
 have nM : ∀ {a o},F3 a = some o → a ≠ M := λ e z => by rw [z,fM] at e; exact nn e
 have fM4 : (F3.set M (.list [.ref x,.ref y])) M = _ := at_self
 have fx4 := s4 _ _ fx3
 have fy4 := s4 _ _ fy3
 have nxM := nM fx3
 have nyM := nM fy3
 refine (?_ : mSs _ _ (upd ρ 4 (.ref M)) (H3.set M (.list [.ref x,.ref y])) _)
 generalize F3.set M (.list [.ref x,.ref y]) = F4 at *
 generalize H3.set M (.list [.ref x,.ref y]) = H4 at *
 refine s_for (l := M) (vs := [.ref x,.ref y]) (by rfl) (L4.kept _ _ (.inl fM4)).1 ⟨_,rfl, ?_⟩
 refine s_expr (e_callE (es_cons (v := .ref x) (by rfl) (es_cons (v := .ref w.b) (by assumption) (es_consE (e_bin (ev_ok (.int 1) rfl (e_call (vs := [.ref d.D,.int (t.length + 1)]) (v_cons r1 (v_cons (v_bin r2 rfl rfl) rfl)) (l_draw C L4 (by exact ar (.T K0 (.a (.u N0) K1)) 1 [_] []) (by exact (ar (.i (.l N0 K8) (.T (.a (.u N0) K1) KK)) 1 [_] []) ht) (by decide) λ p H5 p1 p2 L5 => ?_))))))))
 refine put_marker (n := n + 8) (r := ⟨x,dx,1,v == 0,.none,0⟩) (p := 1 + p) C L5 X fx4 rfl (by rw [hms]; exact nilm) (λ r' e => by rw [hms]; rfl) λ r1' H6 e1 e1' L6 X6 => ?_
 have fM6 : (λ a => if a = x then none else F4 a : AHeap) M = some (.list [.ref x,.ref y]) := (if_neg nxM.symm).trans fM4
 have fy6 : (λ a => if a = x then none else F4 a : AHeap) y = _ := (if_neg nxy.symm).trans fy4
 have L6 : Lw w d _ H6 (λ a => if a = x then none else F4 a) _ _ := L6
 generalize (λ a => if a = x then none else F4 a : AHeap) = F6 at *
 rw [hms] at L6 X6
 refine ⟨(L6.kept _ _ (.inl fM6)).1,_,rfl, ?_⟩
 refine s_expr (e_callE (es_cons (v := .ref y) (by rfl) (es_cons (v := .ref w.b) (by assumption) (es_consE (e_bin (ev_ok (.int 1) rfl (e_call (vs := [.ref d.D,.int (t.length + 1)]) (v_cons r1 (v_cons (v_bin r2 rfl rfl) rfl)) (l_draw C L6 (by exact ar (.T K0 (.a (.u N0) K1)) 1 [_] []) (by exact (ar (.i (.l N0 K8) (.T (.a (.u N0) K1) KK)) 1 [_] []) ht) (by decide) λ q H7 q1 q2 L7 => ?_))))))))
 refine put_marker (n := n + 8) (r := ⟨y,dy,2,true,.none,0⟩) (p := 1 + q) C L7 X6 fy6 rfl (λ q hq => by cases List.mem_singleton.mp hq; rw [e1']; exact (by decide : (1 : Int) ≠ 2)) (λ r' e => ?_) λ r2' H8 e2 e2' L8 X8 => ?_
 · have e : r'.num = 2 := e
   have e1' : r1'.num = 1 := e1'
   refine (?_ : decide (r1'.num < r'.num) = true)
   rw [e,e1']; decide
 have fM8 : (λ a => if a = y then none else F6 a : AHeap) M = some (.list [.ref x,.ref y]) := (if_neg nyM.symm).trans fM6
 exact ⟨(L8.kept _ _ (.inl fM8)).1,h H8 _ M x y _ _ _ L8 (by decide) X8 fM8 (by simp [refs]; exact ⟨e1,e2⟩) nxy r1 r3 rfl⟩
theorem law_3 (C : Calls call) (L : Lw w d σ H F emp c) (hc : c ≤ 20) (un : σ.un = true) (X : Ed σ t) (ht : t.length ≤ 8) (hrows : σ.rows = []) (hnt : σ.nt = none) (hsv : σ.sv = σ.tk) (fM : F M = some (.list [.ref k1,.ref k2])) (rf : refs σ.ms = [.ref k1,.ref k2]) (nk : k1 ≠ k2) {ρ : Locals} (r1 : ρ 1 = some (.ref d.D)) (r3 : ρ 3 = some (.ref w.b)) (r4 : ρ 4 = some (.ref M))
   (h : ∀ ρ' H',Qs (.ret (.bool true)) ρ' H') : mSs (call (n + 12)) law3 ρ H Qs := by
 refine s_assignNE (es_consE (e_lstE (es_consE (e_call (vs := [.ref w.b,.ref M]) (v_cons r3 (v_cons r4 rfl)) (c_law_state C L X (by rw [fM,rf]) λ H1 F1 x y L1 s1 fx fy => ?_)))))
 intro S hS
 obtain ⟨L2,-⟩ := L1.own (o := .list [.tup [.ref x,.ref y]]) hS
 have gS2 : (emp.set S (.list [.tup [.ref x,.ref y]])) S = some (.list [.tup [.ref x,.ref y]]) := at_self
 have L2 : Lw w d σ (H1.set S (.list [.tup [.ref x,.ref y]])) F1 (emp.set S (.list [.tup [.ref x,.ref y]])) c := L2
 refine (?_ : mEs _ _ ρ (H1.set S (.list [.tup [.ref x,.ref y]])) _)
 generalize emp.set S (.list [.tup [.ref x,.ref y]]) = G2 at *
 generalize H1.set S (.list [.tup [.ref x,.ref y]]) = H2 at *
 refine es_consE (e_lst (vs := []) rfl λ P hP => ?_)
 have nSP := ne_new (L2.kept _ _ (.inr gS2)).1 hP
 obtain ⟨L3,s3⟩ := L2.own (o := .list []) hP
 have gS3 := s3 _ _ gS2
 have gP3 : (G2.set P (.list [])) P = some (.list []) := at_self
 generalize G2.set P (.list []) = G3 at *
 generalize H2.set P (.list []) = H3 at *
 have hb3 := L3.buf.b
 have hr3 := L3.buf.rc un
 refine es_all (vs := [.ref w.u]) (v_cons (v_at (v_at r3 hb3 (congrArg some (if_pos un))) hr3 rfl) rfl) ⟨rfl, ?_⟩
 have lc0 : Lc w d M S P (upds ρ [6,7,8] [.ref S,.ref P,.ref w.u]) := ⟨r1,r3,r4,rfl,rfl,rfl⟩
 refine (?_ : mSs _ _ (upds ρ [6,7,8] [.ref S,.ref P,.ref w.u]) H3 Qs)
 generalize upds ρ [6,7,8] [.ref S,.ref P,.ref w.u] = ρ1 at *
 have I0 : In w d M S P [.ref k1,.ref k2] 0 σ H3 F1 G3 c t [] [.tup [.ref x,.ref y]] [] :=
   ⟨L3,by exact (ar (.i (.l N0 (.k 20)) (.l N0 (.a (.k 50) (.m 10 K0)))) 1 [_] []) hc,un,X,by exact (ar (.i (.l N0 K8) (.l N0 (.a (.k 10) (.m 3 K0)))) 1 [_] []) ht,rf,s1 _ _ fM,by rw [hrows]; rfl,by rw [hrows]; exact Nat.le_refl _,⟨trivial,nilm,nilm⟩,rfl,trivial,λ _ => ⟨hsv,hnt⟩,λ z => absurd rfl z,gS3,gP3,⟨⟨x,y,rfl,fx,fy⟩,trivial⟩,rfl⟩
 refine s_forRE (e_bin (ev_ok (.int 2) rfl (e_call (vs := [.ref d.D,.int 4]) (v_cons lc0.r1 rfl) (l_draw C L3 (by decide) (by decide) (by exact (ar (.i (.l N0 (.k 20)) (.t N0 KM)) 1 [_] []) hc) λ v H4 v1 v2 L4 => ?_))))
 obtain ⟨m,rfl⟩ := Int.eq_ofNat_of_zero_le v1
 refine forK_of (λ j ρ H => ∃ σ F G c t st ss ps,Lc w d M S P ρ ∧ In w d M S P [.ref k1,.ref k2] j σ H F G c t st ss ps) (m := 2 + m) (by exact ar (.E (.a K2 (.u N0)) (.u (.a K2 N0))) 1 [_] []) (by exact (ar (.i (.T (.u N0) K4) (.l (.a K2 N0) KK)) 1 [_] []) v2) ⟨σ,F1,G3,c + 1,t,[],_,_,lc0,I0.draw (by exact (ar (.i (.l N0 (.k 20)) (.l (.a N0 K1) (.a (.k 50) (.m 10 K0)))) 1 [_] []) hc) L4⟩ (λ j hj ρ' H' I Q' kk => ?_) (λ ρ' H' I => ?_)
 · obtain ⟨σ',F',G',c',t',st',ss',ps',lc,I⟩ := I
   exact turn1 (n := n + 4) C nSP (by exact (ar (.i (.T (.u N0) K4) (.i (.t N1 (.a K2 N0)) (.t N1 (.k 10)))) 2 [_,_] []) v2 hj) rfl (lc.upd (Nat.le_refl _) _) rfl I λ ρ'' H'' σ'' F'' G'' c'' t'' st'' ss'' ps'' lc'' I'' => kk ρ'' H'' ⟨_,_,_,_,_,_,_,_,lc'',I''⟩
 · obtain ⟨σ',F',G',c',t',st,ss,ps,lc,I⟩ := I
   have hu := I.lw.buf.u I.un
   have hrl := I.rl
   have htl := I.ht
   refine s_expr (e_meth (x := w.u) lc.r8 hu rfl rfl (vs := []) rfl (c_ul_boundary C I.lw.buf I.un (by unfold lim; exact (ar (.i (.l N0 (.m 10 (.a K2 N1))) (.i (.T (.u N1) K4) (.t N0 KM))) 2 [_,_] []) hrl v2) λ H5 Y5 => ?_))
   rw [I.rows] at Y5
   have L5 := I.lw.go Y5
   have hfl : (flatR st).length ≤ 100 := by rw [← I.rows]; exact Nat.le_trans (addB_len _) (by exact (ar (.i (.l N0 (.m 10 (.a K2 N1))) (.i (.T (.u N1) K4) (.l (.a N0 K1) (.k 100)))) 2 [_,_] []) hrl v2)
   have hst : st ≠ [] := λ z => by have := I.len; rw [z] at this; simp at this; exact (False.elim ((ar (.i (.e K0 (.a K2 N0)) .f) 1 [_] []) this))
   have po : Po w d M S P k1 k2 true { σ' with rows := flatR st } H5 F' G' c' t' st ss ps := by
     refine ⟨L5,I.un,⟨I.ed.txt.of rfl rfl rfl,I.ed.zv,I.ed.ok,I.ed.p1,I.ed.p2⟩,by exact (ar (.i (.l N0 (.a (.k 10) (.m 3 (.a K2 N1)))) (.i (.T (.u N1) K4) (.l N0 (.k 100)))) 2 [_,_] []) htl v2,I.rf,I.fM,I.sk,⟨[],.inl rfl,rfl⟩,hfl,hst,by rw [I.len]; exact (ar (.i (.T (.u N0) K4) (.l (.a K2 N0) (.k 10))) 1 [_] []) v2,I.gS,I.gP, ?_,λ _ => I.pv,λ _ => ⟨I.um,I.t1 hst⟩,tf⟩
     have := I.sv.rev
     simpa using this
   refine s_forRE (ev_ok (.int 2) rfl ?_)
   refine forK_of (λ j ρ H => Lc w d M S P ρ ∧ (j = 0 → ∃ σ F c t st,Po w d M S P k1 k2 true σ H F G' c t st ss ps) ∧ (j = 1 → ∃ σ F c t st,Po w d M S P k1 k2 false σ H F G' c t st ss ps)) (m := 2) rfl (by exact ar (.l K2 KK) 0 [] []) ⟨lc,λ _ => ⟨_,_,_,_,_,po⟩,nofun⟩ (λ j hj ρ' H' I Q' kk => ?_) (λ ρ' H' I => s_ret (v := .bool true) rfl (h _ _))
   obtain ⟨lc,i0,i1⟩ := I
   rcases Nat.eq_zero_or_pos j with rfl | hj0
   · obtain ⟨_,_,_,_,_,po⟩ := i0 rfl
     exact one_pass (n := n + 1) C po nk (lc.upd (by exact ar (.l K9 (.k 10)) 0 [] []) _) rfl λ ρ' H' _ _ _ _ _ lc' po' => kk ρ' H' ⟨lc',λ z => absurd z (by decide),λ _ => ⟨_,_,_,_,_,po' rfl⟩⟩
   · obtain rfl : j = 1 := Nat.le_antisymm (Nat.lt_succ_iff.mp hj) hj0
     obtain ⟨_,_,_,_,_,po⟩ := i1 rfl
     exact one_pass (n := n + 1) C po nk (lc.upd (by exact ar (.l K9 (.k 10)) 0 [] []) _) rfl λ ρ' H' _ _ _ _ _ lc' _ => kk ρ' H' ⟨lc',λ z => absurd z (by decide),λ z => absurd z (by decide)⟩
theorem law_all (C : Calls call) {s : Addr} {l : List Int} (hs : H s = some (.flist (il l))) (hl : l.length ≤ 63) (h : ∀ ρ' H',Qs (.ret (.bool true)) ρ' H') : mSs (call (n + 12)) b_law (argL [.ref s]) H Qs := by
 rw [law_parts]
 refine law_1 C hs hl _ λ H1 w d σ m ρ1 L1 un X hm hrows hnt hsv hms r1 r2 r3 => ?_
 refine law_2 C L1 un X hm hms r1 r2 r3 _ λ H2 F M k1 k2 ms c ρ2 L2 hc X2 fM rf nk r1 r3 r4 => ?_
 exact law_3 C L2 hc un X2 hm hrows hnt hsv fM rf nk r1 r3 r4 h
end

end P_C35

section P_A0
open PySem PySem.W PySem.Calls PyProof.Rows

noncomputable def topRunT (tb : String → Option Builtin) (p : Program) (w : World) (n₀ : Nat) (ann : Option Value) : Nat → SharedT → Thread → Option SharedT
 | 0,_,_ => none
 | n + 1,s,t => match through t with
   | true => some s
   | false => match stepOk n₀ ann t with
     | false => none
     | true => match stepT (denote tb) p w s t with
       | some r => topRunT tb p w n₀ ann n r.1 r.2
       | none => none
theorem topRunT_spec {tb : String → Option Builtin} {p : Program} {w : World} {n₀ : Nat} {ann : Option Value} : ∀ {n : Nat} {s s' : SharedT} {t : Thread},topRunT tb p w n₀ ann n s t = some s' → topRun tb p w n₀ ann n s.abs t = some s'.abs
 | 0,_,_,_,h => by cases h
 | n + 1,s,s',t,h => by
   unfold topRunT at h
   unfold topRun
   cases ht : through t with
   | true => rw [ht] at h; cases h; rfl
   | false =>
     rw [ht] at h
     cases hk : stepOk n₀ ann t with
     | false => rw [hk] at h; cases h
     | true =>
       rw [hk] at h
       cases hs : stepT (denote tb) p w s t with
       | none => rw [hs] at h; cases h
       | some r => rw [hs] at h; rw [stepT_spec hs]; exact topRunT_spec h
noncomputable def topRunQ (p : Program) (w : World) (n₀ : Nat) (ann : Option Value) : Nat → SharedT → Thread → Option SharedT
 | 0,_,_ => none
 | n + 1,s,t => match through t with
   | true => some s
   | false => match Fast.tw6613529449190102663 n₀ ann t with
     | false => none
     | true => match Fast.tw10156331382660048174 (Fast.tw11892475500146522536 Fast.tw14364793385576792824) p w s t with
       | some r => topRunQ p w n₀ ann n r.1 r.2
       | none => none
theorem topRunQ_eq (p : Program) (w : World) (n₀ : Nat) (ann : Option Value) : ∀ n s t,topRunT treeTable p w n₀ ann n s t = topRunQ p w n₀ ann n s t
 | 0,_,_ => rfl
 | n + 1,s,t => by
   unfold topRunT topRunQ
   rw [← Fast.te10156331382660048174,← Fast.te11892475500146522536,← Fast.te14364793385576792824,← Fast.te6613529449190102663]
   cases through t with
   | true => rfl
   | false =>
     cases stepOk n₀ ann t with
     | false => rfl
     | true =>
       cases stepT (denote treeTable) p w s t with
       | none => rfl
       | some r => exact topRunQ_eq p w n₀ ann n r.1 r.2
noncomputable def bootT (P : Params) : BT := (List.range 11).foldl (λ t i => t.ins i ((boot_heap P).objs[i]?.getD default)) .nil
noncomputable abbrev bootS (w : World) (os : OsState) : SharedT := ⟨bootT w.params,11,{},Array.mk [],boot_drawn,boot_toks,os⟩
theorem boot_abs (P : Params) : absHeap (bootT P) 11 {} = boot_heap P := by kernel_rfl
noncomputable abbrev annOf (w : World) : Option Value := (boot_heap w.params).nsMap mainGlobals "__annotations__"
theorem boot_ns (P : Params) : ((boot_heap P).isNs mainGlobals) = true := by kernel_rfl
theorem boot_size (P : Params) : (boot_heap P).objs.size = 11 := by kernel_rfl
theorem left_of {p q : Program} {loose : List Str} {Xt : Shared → Bool} {α : Type} {P : Heap → Prop} {Yt : SharedT → α} {ya : α} {N M : Nat} {g0 : Bool} (e : opening p = plainProg p.main.scope.names) (hN : Nat.ble 600 N = true) (f : ∀ s,fenceModules? p s = some s) (le : Nat.ble M N = true) (hT : ∀ s,Yt s = ya → P s.abs.heap)
   (one : ∀ w os,(topRunQ p w 11 (annOf w) M (bootS w os) (topStub p)).map (λ s => ((staticsOk (importedModules p.main.body) (boot_heap w.params) s.abs.heap && namesBound p s.abs.heap && gensDone s.abs && laidKept (boot_heap w.params) s.abs.heap),
     openSeen q loose (importedModules p.main.body) Xt g0 s.abs,Yt s)) = some (true,openGood q loose,ya)) : LeftO p q loose Xt (λ s => P s.heap) (λ _ => True) N g0 := λ w => by
 obtain ⟨⟨h,gs,d,k,os⟩,e1,e2⟩ := Option.map_eq_some_iff.mp (boot_open (N := N) e hN f w)
 obtain ⟨rfl,rfl,rfl,rfl⟩ : h = boot_heap w.params ∧ gs = Array.mk [] ∧ d = boot_drawn ∧ k = boot_toks := by simpa using e2
 obtain ⟨s',r,c⟩ := Option.map_eq_some_iff.mp (one w os)
 obtain ⟨c1,c2,c3⟩ : _ ∧ _ ∧ _ := by simpa only [Prod.mk.injEq] using c
 rw [← topRunQ_eq] at r
 have r := topRunT_spec r
 have ea : (bootS w os).abs = ⟨boot_heap w.params,Array.mk [],boot_drawn,boot_toks,os⟩ := by
   show Shared.mk (absHeap (bootT w.params) 11 {}) _ _ _ _ = _
   rw [boot_abs]
 rw [ea] at r
 have r := topRun_mono (N - M) _ _ _ _ r
 rw [show M + (N - M) = N by have := Nat.le_of_ble_eq_true le; omega] at r
 have t : topFrom treeTable p w N ⟨boot_heap w.params,Array.mk [],boot_drawn,boot_toks,os⟩ = some s'.abs := by
   unfold topFrom
   dsimp only
   rw [boot_ns,boot_size,r]
   show (match staticsOk (importedModules p.main.body) (boot_heap w.params) s'.abs.heap && namesBound p s'.abs.heap && gensDone s'.abs && laidKept (boot_heap w.params) s'.abs.heap with | true => _ | false => _) = _
   rw [c1]
 unfold openEnds
 rw [e1]
 show (topFrom treeTable p w N _).map _ = _
 rw [t]
 exact congrArg some (Prod.ext c2 (eq_true (hT _ c3)))
noncomputable def ogT (s : SharedT) (a : Addr) : Option Obj := match Nat.blt a s.n with
 | true => (s.tree.get a).bind alive
 | false => none
theorem ogT_sound {s : SharedT} {a : Addr} {o : Obj} (e : ogT s a = some o) : s.abs.heap.get? a = some o := by
 unfold ogT at e
 cases h : Nat.blt a s.n with
 | true =>
   rw [h] at e
   obtain ⟨o',g,e⟩ := Option.bind_eq_some_iff.mp e
   exact (abs_get (Nat.le_of_ble_eq_true h) g).trans e
 | false => rw [h] at e; cases e

end P_A0

section P_A1
open PySem PySem.W PySem.Calls PyProof.Rows

noncomputable def kAs : List Addr := [3,1,275,274,422,421,499,498,567,566,673,672,699,698,739,738,457,456,190,47,48,54,55,61,62,68,69,75,76,82,83,89,90,96,97,103,104,113,119,120,126,127,133,134,176,177,203,204,217,218,224,225,231,232,238,239,245,246,252,253,264,265,285,286,292,293,299,300,306,307,313,314,320,321,327,328,334,335,348,349,355,356,369,370,376,377,383,384,390,391,397,398,474,475,514,515,521,522,528,529,542,543,549,550,556,557,563,564,579,585,586,620,621,634,635,641,642,655,656,662,663,669,670,681,682,695,696,716,717,723,724,728,729,747,748,754,755,761,762,766,767,771,772,778,779]
noncomputable def fragT (s : SharedT) : Frag := kAs.filterMap λ a => (ogT s a).map λ o => (a,o)
noncomputable abbrev allF : List Fn := Fn.all
noncomputable def allC : List Cl := [.buffer,.gap,.marker,.markers,.undolist,.recording,.piece]
noncomputable def allA : List At := At.all.map (·.1)
theorem allF_mem (f : Fn) : f ∈ allF := List.mem_of_getElem? (Fn.back f)
theorem allC_mem (C : Cl) : C ∈ allC := by
 have h : allC.contains C = true := by cases C <;> exact Eq.refl true
 exact List.contains_iff_mem.mp h
theorem allA_mem (a : At) : a ∈ allA := by
 have h : allA.contains a = true := by cases a <;> exact Eq.refl true
 exact List.contains_iff_mem.mp h
noncomputable def parOf : Fn → List Str
 | .need_writable => [Str.ofString "buffer"]
 | .reached => [Str.ofString "buffer",Str.ofString "start",Str.ofString "end"]
 | .tell_ahead => [Str.ofString "buffer",Str.ofString "start",Str.ofString "end"]
 | .tell_behind => [Str.ofString "buffer",Str.ofString "start",Str.ofString "end",Str.ofString "old_length"]
 | .text_out => [Str.ofString "buffer",Str.ofString "start",Str.ofString "end"]
 | .text_in => [Str.ofString "buffer",Str.ofString "place",Str.ofString "codes"]
 | .hung_out => [Str.ofString "buffer",Str.ofString "start",Str.ofString "end"]
 | .hung_in => [Str.ofString "buffer",Str.ofString "place",Str.ofString "many",Str.ofString "before_markers"]
 | .put_in => [Str.ofString "buffer",Str.ofString "place",Str.ofString "codes",Str.ofString "before_markers",Str.ofString "is_point_behind"]
 | .insert => [Str.ofString "buffer",Str.ofString "codes",Str.ofString "before_markers"]
 | .delete => [Str.ofString "buffer",Str.ofString "start",Str.ofString "end"]
 | .replace => [Str.ofString "buffer",Str.ofString "start",Str.ofString "end",Str.ofString "codes"]
 | .insert_piece => [Str.ofString "buffer",Str.ofString "piece"]
 | .marker_distance => [Str.ofString "place",Str.ofString "start",Str.ofString "end",Str.ofString "is_advancing"]
 | .need_visible => [Str.ofString "buffer",Str.ofString "start",Str.ofString "end"]
 | .markers_ahead => [Str.ofString "rows",Str.ofString "at"]
 | .undo_insert => [Str.ofString "buffer",Str.ofString "row"]
 | .undo_delete => [Str.ofString "buffer",Str.ofString "row",Str.ofString "marker_rows"]
 | .undo_row => [Str.ofString "buffer",Str.ofString "rows",Str.ofString "at"]
 | .above_boundaries => [Str.ofString "rows",Str.ofString "at"]
 | .undo_group => [Str.ofString "buffer",Str.ofString "rows",Str.ofString "at"]
 | .set_marker => [Str.ofString "marker",Str.ofString "buffer",Str.ofString "place"]
 | .deck => [Str.ofString "script"]
 | .draw => [Str.ofString "deck",Str.ofString "many"]
 | .law_buffer => [Str.ofString "codes",Str.ofString "the_point"]
 | .law_state => [Str.ofString "buffer",Str.ofString "markers"]
 | .law_command => [Str.ofString "deck",Str.ofString "buffer",Str.ofString "fresh"]
 | .law => [Str.ofString "script"]
 | .gap_init => [Str.ofString "self",Str.ofString "codes",Str.ofString "room"]
 | .gap_size => [Str.ofString "self"]
 | .gap_codes => [Str.ofString "self",Str.ofString "start",Str.ofString "end"]
 | .gap_move => [Str.ofString "self",Str.ofString "at"]
 | .gap_widen => [Str.ofString "self",Str.ofString "wanted"]
 | .gap_insert => [Str.ofString "self",Str.ofString "at",Str.ofString "codes"]
 | .gap_delete => [Str.ofString "self",Str.ofString "start",Str.ofString "end"]
 | .marker_init => [Str.ofString "self",Str.ofString "number",Str.ofString "advances"]
 | .mk_init => [Str.ofString "self"]
 | .mk_numbers => [Str.ofString "self"]
 | .mk_put => [Str.ofString "self",Str.ofString "marker",Str.ofString "position"]
 | .mk_within => [Str.ofString "self",Str.ofString "start",Str.ofString "end"]
 | .mk_inserted => [Str.ofString "self",Str.ofString "start",Str.ofString "end",Str.ofString "is_before"]
 | .mk_deleted => [Str.ofString "self",Str.ofString "start",Str.ofString "end"]
 | .mk_replaced => [Str.ofString "self",Str.ofString "start",Str.ofString "end",Str.ofString "many"]
 | .buf_init => [Str.ofString "self",Str.ofString "number",Str.ofString "name",Str.ofString "room"]
 | .buf_size => [Str.ofString "self"]
 | .buf_codes => [Str.ofString "self",Str.ofString "start",Str.ofString "end"]
 | .buf_goto => [Str.ofString "self",Str.ofString "place"]
 | .buf_is_modified => [Str.ofString "self"]
 | .buf_set_modified => [Str.ofString "self",Str.ofString "is_so"]
 | .buf_touch => [Str.ofString "self",Str.ofString "are_codes"]
 | .piece_init => [Str.ofString "self",Str.ofString "codes",Str.ofString "runs"]
 | .rec_init => [Str.ofString "self"]
 | .rec_comes => [Str.ofString "self",Str.ofString "buffer",Str.ofString "start",Str.ofString "many"]
 | .rec_goes => [Str.ofString "self",Str.ofString "buffer",Str.ofString "start",Str.ofString "end"]
 | .ul_init => [Str.ofString "self"]
 | .ul_at => [Str.ofString "self"]
 | .ul_boundary => [Str.ofString "self"]
 | .ul_begin => [Str.ofString "self",Str.ofString "point"]
 | .ul_state => [Str.ofString "self",Str.ofString "is_modified",Str.ofString "tick"]
 | .ul_insert => [Str.ofString "self",Str.ofString "start",Str.ofString "many",Str.ofString "point",Str.ofString "is_modified",Str.ofString "tick"]
 | .ul_delete => [Str.ofString "self",Str.ofString "start",Str.ofString "piece",Str.ofString "point",Str.ofString "markers",Str.ofString "is_modified",Str.ofString "tick"]
 | .ul_renew => [Str.ofString "self",Str.ofString "elder",Str.ofString "fresh"]
noncomputable def dvalOf : Fn → List Value
 | .insert => [.bool false]
 | .buf_init => [.int 8 973]
 | _ => []
noncomputable def mOf (f : Fn) : Nat := arity f - (dflOf f).length
noncomputable abbrev FdObs := Bool × Bool × Bool × ScopeKind × Addr × Addr × Bool × Option NameKind × List Str × Bool × (Setting → (Nat → Value) → Option (List (Str × Value)))
noncomputable def fdObs (K : Frag) (f : Fn) (fd : FuncData) : FdObs :=
 (fd.closure.isEmpty,fd.scope.isCoroutine,fd.scope.isGenerator,fd.scope.kind,fd.globals,fd.builtins,
  (match fd.code with
   | .ref c => (match K.lookup c with
     | some ⟨_,_,.fields vs,_⟩ => (match (vs[1]? : Option Value) with | some (.str q _) => q == fd.qualname | _ => false)
     | _ => false)
   | _ => false),
  fd.scope.names.lookup (Str.ofString "__debug__"),(fd.scope.names.take (arity f)).map (·.1),
  (parOf f).all (λ p => fd.scope.names.lookup p == some .local || fd.scope.names.lookup p == some .cell),
  λ S v => peek K S (bindArgs fd ⟨(List.range (mOf f)).map v,[]⟩))
noncomputable def fdExp (f : Fn) : FdObs := (true,false,false,.function,mainGlobals,builtinsNs,true,none,parOf f,true,λ _ v => some ((parOf f).zip ((List.range (mOf f)).map v ++ dvalOf f)))
noncomputable def fnObs (K : Frag) (f : Fn) : Option FdObs := match K.lookup (fAddr f) with
 | some ⟨_,_,.func fd,_⟩ => some (fdObs K f fd)
 | _ => none
noncomputable abbrev pw : Program := PySem.Challenge.pw_np0098_01
noncomputable abbrev Src := List Stmt × List (Str × NameKind)
noncomputable def defsOf : Nat → List Stmt → List Src
 | 0,_ => []
 | k + 1,l => l.flatMap λ s => match s with
   | .FunctionDef _ _ b _ _ _ c _ _ _ => [(b,c.names)]
   | .ClassDef _ _ _ b _ _ _ _ _ _ _ => defsOf k b
   | _ => []
noncomputable def srcs : List (Option Src) := [2,3,4,5,6,7,8,9,10,12,13,14,21,35,36,37,38,39,40,41,42,82,88,89,90,91,92,93,43,44,46,47,48,49,50,57,61,62,63,65,66,67,68,69,74,76,77,79,80,81,83,84,85,86,24,26,27,28,29,30,31,33].map λ i => (defsOf 2 pw.main.body)[i]?
noncomputable def bo (K : Frag) (f : Fn) : Option Src := match K.lookup (fAddr f) with
 | some ⟨_,_,.func fd,_⟩ => (match fd.body with | .stmts b => some (b,fd.scope.names) | _ => none)
 | _ => none
noncomputable def cSrc (x : Src) : List MS := x.1.map (cS 20 (scoOf x.2))
theorem bodies : srcs.map (Option.map cSrc) = allF.map λ f => some (bodyOf f) := by kernel_rfl
noncomputable abbrev OO := Option (Option Value)
noncomputable def obsG (K : Frag) : List OO := glTab.map λ p => nsIn K mainGlobals p.1
noncomputable def expG : List OO := glTab.map λ p => match p.2 with
 | .fn f => some (some (.ref (fAddr f))) | .cls C => some (some (.ref (cAddr C))) | .bnd => some (some (.ref bndAddr)) | .blt _ => some none | .other => none
noncomputable def fldL : List (Cl × At) := allC.flatMap λ C => (allA.filter (isField C)).map λ a => (C,a)
noncomputable def obsA (K : Frag) : List (Bool × OO × OO) := fldL.map λ x => (plainGet K (cAddr x.1) (nm x.2),findIn K (.ref (cAddr x.1)) (nm x.2),takerIn K (cAddr x.1) (nm x.2))
noncomputable def methL : List (Cl × At × Fn) := allC.flatMap λ C => allA.filterMap λ a => (methodOf C a).map λ f => (C,a,f)
noncomputable def obsM (K : Frag) : List (Bool × OO) := methL.map λ x => (plainGet K (cAddr x.1) (nm x.2.1),findIn K (.ref (cAddr x.1)) (nm x.2.1))
noncomputable def obsC (K : Frag) : List (Bool × OO × Bool × Bool × OO × Bool) := allC.map λ C => (hasDictIn K (cAddr C),findIn K (.ref (cAddr C)) "__setattr__",plainOver K (cAddr C),makesIn K (cAddr C),findIn K (.ref (cAddr C)) "__init__",keepIn K (.ref (cAddr C)))
noncomputable def obsF (K : Frag) : List (Bool × Bool) := allF.map λ f => (isFn K (.ref (fAddr f)),keepIn K (.ref (fAddr f)))
noncomputable def obsX (K : Frag) : Bool × OO := ((K.lookup sysModules).isSome,nsIn K mainGlobals (Str.ofString "law"))
noncomputable def obsB (K : Frag) : Option (Value × Data) := (K.lookup bndAddr).map λ o => (o.cls,o.data)
noncomputable abbrev Obs := (Bool × OO) × List OO × List (Bool × OO × OO) × List (Bool × OO) × List (Bool × OO × Bool × Bool × OO × Bool) × List (Bool × Bool) × Option (Value × Data) × List (Option FdObs) × List (Option Src)
noncomputable def obsK (K : Frag) : Obs := (obsX K,obsG K,obsA K,obsM K,obsC K,obsF K,obsB K,allF.map (fnObs K),allF.map (bo K))
noncomputable def expK : Obs := ((true,some (some (.ref 779))),expG,fldL.map (λ _ => (true,some none,some none)),methL.map (λ x => (true,some (some (.ref (fAddr x.2.2))))),allC.map (λ C => (true,some (some (.builtin "object.__setattr__")),true,true,some (some (.ref (fAddr (initOf C)))),true)),
 allF.map (λ _ => (true,true)),some (.type "tuple",.seq #[.str (Str.ofString "boundary") 438] 0),allF.map (λ f => some (fdExp f)),srcs)

end P_A1

section P_A2
open PySem PySem.W PySem.Calls PyProof.Rows

noncomputable abbrev qV : Program := { pw with main := { pw.main with body := pw.main.body.drop 61 } }
noncomputable abbrev lsV : List Str := pw.boundNames.filter λ x => !(x == Str.ofString "law")
theorem one : ∀ (w : World) (os : OsState),(topRunQ pw w 11 (annOf w) 5000 (bootS w os) (topStub pw)).map (λ s => ((staticsOk (importedModules pw.main.body) (boot_heap w.params) s.abs.heap && namesBound pw s.abs.heap && gensDone s.abs && laidKept (boot_heap w.params) s.abs.heap),
     Fast.tw4187177175401517315 qV lsV (importedModules pw.main.body) (λ _ => true) true s.abs,obsK (fragT s))) = some (true,openGood qV lsV,expK) := λ w os => by kernel_rfl

end P_A2

section P_A3
open PySem PySem.W PySem.Calls PyProof.Rows

theorem map_at {α β : Type} {f g : α → β} : ∀ {l : List α},l.map f = l.map g → ∀ x ∈ l,f x = g x
 | _ :: _,e,x,h => by
   injection e with e1 e2
   rcases List.mem_cons.mp h with rfl | h
   · exact e1
   · exact map_at e2 x h
theorem blt_id : ∀ p ∈ glTab,∀ b,p.2 = .blt b → p.1 = Str.ofString b.id := by
 intro p hp b e
 have := List.all_eq_true.mp (show (glTab.all λ p => match p.2 with | .blt b => p.1 == Str.ofString b.id | _ => true) = true by decide +kernel) p hp
 rw [e] at this
 exact beq_iff_eq.mp this
section
variable {K : Frag}
theorem kok_of (e : obsK K = expK) : KOk K := by
 have e1 : obsG K = expG := congrArg (·.2.1) e
 have e2 : obsA K = fldL.map (λ _ => (true,some none,some none)) := congrArg (·.2.2.1) e
 have e3 : obsM K = methL.map (λ x => (true,some (some (.ref (fAddr x.2.2))))) := congrArg (·.2.2.2.1) e
 have e4 : obsC K = allC.map (λ C => (true,some (some (.builtin "object.__setattr__")),true,true,some (some (.ref (fAddr (initOf C)))),true)) := congrArg (·.2.2.2.2.1) e
 have e5 : obsF K = allF.map (λ _ => (true,true)) := congrArg (·.2.2.2.2.2.1) e
 have e6 : obsB K = some (.type "tuple",.seq #[.str (Str.ofString "boundary") 438] 0) := congrArg (·.2.2.2.2.2.2.1) e
 unfold obsG expG at e1
 unfold obsA at e2
 unfold obsM at e3
 unfold obsC at e4
 unfold obsF at e5
 unfold obsB at e6
 refine ⟨λ p hp => ?_,λ C a h => ?_,λ C => ?_,λ C a f h => ?_,λ f => ?_,λ C => ?_, ?_⟩
 · have q := map_at e1 p hp
   cases h : p.2 with
   | fn f => simp only [h] at q ⊢; exact q
   | cls C => simp only [h] at q ⊢; exact q
   | bnd => simp only [h] at q ⊢; exact q
   | blt b => simp only [h] at q ⊢; exact ⟨q,blt_id p hp b h⟩
   | other => trivial
 · have q := map_at e2 (C,a) (List.mem_flatMap.mpr ⟨C,allC_mem C,List.mem_map.mpr ⟨a,List.mem_filter.mpr ⟨allA_mem a,h⟩,rfl⟩⟩)
   simp only [Prod.mk.injEq] at q
   exact q
 · have q := map_at e4 C (allC_mem C)
   simp only [Prod.mk.injEq] at q
   exact ⟨q.1,q.2.1,q.2.2.1⟩
 · have q := map_at e3 (C,a,f) (List.mem_flatMap.mpr ⟨C,allC_mem C,List.mem_filterMap.mpr ⟨a,allA_mem a,by rw [h]; rfl⟩⟩)
   simp only [Prod.mk.injEq] at q
   exact q
 · have q := map_at e5 f (allF_mem f)
   simp only [Prod.mk.injEq] at q
   exact q
 · have q := map_at e4 C (allC_mem C)
   simp only [Prod.mk.injEq] at q
   exact ⟨q.2.2.2.1,q.2.2.2.2.1,q.2.2.2.2.2⟩
 · obtain ⟨o,ho,q⟩ := Option.map_eq_some_iff.mp e6
   simp only [Prod.mk.injEq] at q
   exact ⟨o,_,_,ho,q.1,q.2⟩
theorem par_len (f : Fn) : (parOf f).length = arity f ∧ (dflOf f).length ≤ arity f ∧ (parOf f).Nodup := by cases f <;> decide +kernel
theorem dval_ok (f : Fn) (h : Heap) (P : Addr → Prop) : vrels h P (dflOf f) (dvalOf f) := by
 cases f <;> first | exact rfl | exact vrels_one vrel_bool | exact vrels_one vrel_int
theorem vals_map {vals : List Value} {m : Nat} (h : vals.length = m) : (List.range m).map (λ i => vals.getD i .none) = vals := by
 subst h
 apply List.ext_getElem
 · simp
 · intro i h1 h2
   rw [List.getElem_map,List.getElem_range,List.getD_eq_getElem?_getD,List.getElem?_eq_getElem h2]; rfl
theorem fn_of (e : obsK K = expK) (f : Fn) : ∃ fd body,FnSpec K f fd body (parOf f) (dflOf f) ∧ body.map (cS 20 (scoOf fd.scope.names)) = bodyOf f := by
 have q := map_at (show allF.map (fnObs K) = allF.map λ f => some (fdExp f) from congrArg (·.2.2.2.2.2.2.2.1) e) f (allF_mem f)
 have q1 := map_at (f := λ f => (bo K f).map cSrc) ((List.map_map.symm.trans (congrArg (List.map (Option.map cSrc)) (show allF.map (bo K) = srcs from congrArg (·.2.2.2.2.2.2.2.2) e))).trans bodies) f (allF_mem f)
 unfold bo at q1
 unfold fnObs at q
 split at q
 · rename_i oc od fd sl ho
   have q := Option.some.inj q
   unfold fdObs fdExp at q
   simp only [Prod.mk.injEq] at q
   obtain ⟨q2,q3,q4,q5,q6,q7,q8,q9,q10,q11,q12⟩ := q
   obtain ⟨n1,n2,n3⟩ := par_len f
   rw [ho] at q1
   dsimp only at q1
   cases hb : fd.body with
   | stmts b =>
     rw [hb] at q1
     refine ⟨fd,b,⟨⟨_,ho,rfl⟩,hb,List.isEmpty_iff.mp q2,q3,q4,q5,q6,q7, ?_,q9,by rw [n1]; exact q10.symm,n3,λ p hp => ?_,λ s vals X hl => ⟨dvalOf f,dval_ok f,λ M _ _ _ r => ?_⟩⟩,Option.some.inj q1⟩
     · split at q8
       · rename_i c hc
         split at q8
         · rename_i vs hlk
           split at q8
           · rename_i qn t hv
             exact ⟨c,_,_,t,hc,hlk,rfl,by rw [hv,beq_iff_eq.mp q8]⟩
           · cases q8
         · cases q8
       · cases q8
     · have := List.all_eq_true.mp q11 p hp
       simpa using this
     · have hm : vals.length = mOf f := by unfold mOf; omega
       have := congrFun (congrFun q12 ⟨M.prog,M.w.params⟩) λ i => vals.getD i .none
       simp only [vals_map hm] at this
       exact (Looks.of_peek (M := M) X this).here r
   | _ => rw [hb] at q1; cases q1
 · cases q
theorem calls_of {prog : Program} {w : World} {base : Heap} (S : Stat K base) (e : obsK K = expK) : Calls (RC prog w base) := by
 intro n f args H Q hl h
 obtain ⟨fd,body,G,eb⟩ := fn_of e f
 refine call_intro S G (by rw [(par_len f).1]; exact hl) ?_
 rw [eb]
 exact h
end

end P_A3

section P_A4
open PySem PySem.W PySem.Calls PyProof.Rows

theorem int_list {R : WRecords} {cl : Str → Option Addr} {h : Heap} : ∀ {xs : List WData} {vs : List Value} {as : List Addr},WShape.hasItems R xs .int = true → ReadsAllW R cl h vs xs as → ∃ is : List Int,is.length = xs.length ∧ ∀ P,vrels h P (il is) vs
 | [],vs,as,_,r => by
   obtain ⟨rfl,_⟩ := readsAllW_nil_inv r
   exact ⟨[],rfl,λ _ => rfl⟩
 | x :: xs,vs,as,hx,r => by
   have hx : (WShape.has R x .int && WShape.hasItems R xs .int) = true := by simpa [WShape.hasItems] using hx
   obtain ⟨h1,h2⟩ := Bool.and_eq_true_iff.mp hx
   obtain ⟨i,rfl⟩ := hasW_int h1
   obtain ⟨v,vs,as1,as2,rfl,rfl,r1,r2⟩ := readsAllW_cons_inv r
   obtain ⟨t,rfl,_⟩ := readsW_int_inv r1
   obtain ⟨is,e,q⟩ := int_list h2 r2
   exact ⟨i :: is,by simp [e],λ P => vrels_cons vrel_int (q P)⟩
noncomputable def YK (h : Heap) : Prop := ∃ K : Frag,K.In h ∧ obsK K = expK
theorem lk_mem {a : Addr} {o : Obj} : ∀ {K : Frag},K.lookup a = some o → (a,o) ∈ K
 | [],e => by cases e
 | (b,p) :: K,e => by
   rw [List.lookup_cons] at e
   cases q : (a == b) with
   | true => rw [q] at e; cases e; rw [beq_iff_eq.mp q]; exact .head _
   | false => rw [q] at e; exact .tail _ (lk_mem e)
theorem fragT_in (s : SharedT) : (fragT s).In s.abs.heap := by
 intro a o e
 obtain ⟨b,_,hb⟩ := List.mem_filterMap.mp (lk_mem e)
 obtain ⟨o',ho,e⟩ := Option.map_eq_some_iff.mp hb
 cases e
 exact ogT_sound ho
theorem law_call {prog : Program} {w : World} {s : Shared} {a : Addr} {vs : List Value} {is : List Int} {K : Frag} (X : K.In s.heap) (e : obsK K = expK) (lim : s.heap.NoLimit) (blt : ∃ mb,s.heap.Ns builtinsNs mb ∧ ∀ b : Blt,mb (Str.ofString b.id) = some b.val)
   (hl : s.heap.IsList a (List.toArray vs)) (hv : ∀ P,vrels s.heap P (il is) vs) (hn : is.length ≤ 63) :
   codeAny (model prog w) callerA (.call (.ref 779) ⟨[.ref a],[]⟩) (λ r s' => r = .ok (.ret (.bool true)) ∧ (∀ b o,s.heap.get? b = some o → s'.heap.get? b = some o) ∧ s'.os = s.os ∧ s'.gens = s.gens) s := by
 have ex : obsX K = (true,some (some (.ref 779))) := congrArg (·.1) e
 have ex1 : (K.lookup sysModules).isSome = true := congrArg (·.1) ex
 obtain ⟨om,hom⟩ := Option.isSome_iff_exists.mp ex1
 have S : Stat K s.heap := ⟨X,lim,⟨om,X _ _ hom⟩,blt,kok_of e⟩
 have C : Calls (RC prog w s.heap) := calls_of S e
 have hH : ∀ b o,(emp.set a (.flist (il is))) b = some o → b = a ∧ o = .flist (il is) := by
   intro b o e
   by_cases q : b = a
   · have e : some (AO.flist (il is)) = some o := (if_pos q).symm.trans e
     exact ⟨q,(Option.some.inj e).symm⟩
   · have e : (none : Option AO) = some o := (if_neg q).symm.trans e
     cases e
 have nf : ∀ b,¬ foot (emp.set a (.flist (il is))) b := by
   rintro b (⟨o,ho,n⟩ | ⟨x,C,k,F,hx⟩)
   · exact n _ (hH _ _ ho).2
   · cases (hH _ _ hx).2
 have c : Conc prog w s.heap (emp.set a (.flist (il is))) s.heap := by
   refine ⟨λ _ _ e => e,λ b o ho => ?_,λ b f => absurd f (nf b),λ x y C k d F C' k' F' h1 _ => (by cases (hH _ _ h1).2),λ x C k d F h1 => (by cases (hH _ _ h1).2),λ x xs h1 => ?_⟩
   · obtain ⟨rfl,rfl⟩ := hH _ _ ho
     exact ⟨vs,hl,hv _⟩
   · obtain ⟨rfl,_⟩ := hH _ _ h1
     obtain ⟨o,ho,_⟩ := hl
     exact ⟨o,ho⟩
 have L : RC prog w s.heap 13 .law [.ref a] (emp.set a (.flist (il is))) λ v _ => v = .bool true := by
   refine C 12 .law [.ref a] _ _ rfl ?_
   exact law_all (n := 0) C (s := a) (l := is) (if_pos rfl) hn λ _ _ => rfl
 refine codeAny_mono (L callerA s [.ref a] ⟨rfl,by decide,by decide⟩ c ⟨_,_,rfl,rfl,rfl⟩) λ r s' h => ?_
 obtain ⟨v,rfl,u,H',h',tk,rfl,c',_,rv,rfl⟩ := h
 cases rv
 exact ⟨rfl,c'.keep,rfl,rfl⟩

end P_A4

section P_A5
open PySem PySem.W PySem.Calls PyProof.Rows

noncomputable abbrev rowV : OpenRow := PySem.Challenge.rw_np0098_01.row
theorem left : LeftO pw qV lsV (λ _ => true) (λ s => YK s.heap) (λ _ => True) 5600 :=
 left_of (M := 5000) (by kernel_rfl) rfl (λ s => by kernel_rfl) rfl (λ s e => ⟨_,fragT_in s,e⟩) λ w os => by
   rw [Fast.te4187177175401517315]
   exact one w os
theorem defs1 : (defOf qV (Str.ofString "law")).isSome = true := by kernel_rfl
theorem defs2 : pw.theDef (Str.ofString "law") = (defOf qV (Str.ofString "law")).map (λ x => (x.1.params,x.1.body,x.1.scope)) := by kernel_rfl
theorem defs3 : (defOf qV (Str.ofString "law")).map (λ x => kwWritten? x.1.params.kwonlyargs x.1.params.kw_defaults) = (defOf qV (Str.ofString "law")).map (λ x => some x.2) := by kernel_rfl
theorem defs : ∃ d kwd,defOf qV rowV.name = some (d,kwd) ∧ rowV.prog.theDef rowV.name = some (d.params,d.body,d.scope) ∧ kwWritten? d.params.kwonlyargs d.params.kw_defaults = some kwd := by
 obtain ⟨⟨d,kwd⟩,e⟩ := Option.isSome_iff_exists.mp defs1
 have e2 := defs2
 have e3 := defs3
 rw [e] at e2 e3
 exact ⟨d,kwd,e,e2,Option.some.inj e3⟩
theorem walk {d : DefRec} {kwd : List (Str × PySem.Expr)} (hd : defOf qV rowV.name = some (d,kwd)) : WalkO qV lsV (λ _ _ => True) (λ _ h => YK h) rowV.toRowW d kwd λ f vs => PySem.call f vs := by
 intro w s₀ s₁ mg mb G Y fa o pm cd doc dV kV ho hdd hcd hD hmg hg args vals as hpre hlay hrd hwl hlo
 obtain ⟨K,X,e⟩ := Y
 obtain ⟨hsh,hc⟩ := pre_splitW hpre
 obtain ⟨x,r,rfl,hx,hr⟩ := hasAllW_cons hsh
 obtain rfl := hasAllW_nil hr
 obtain ⟨xs,rfl,hi⟩ := hasW_list hx
 obtain ⟨v,vs,as1,as2,rfl,rfl,r1,r2⟩ := readsAllW_cons_inv hrd
 obtain ⟨rfl,rfl⟩ := readsAllW_nil_inv r2
 obtain ⟨a,va,as',rfl,hl,ri,rfl⟩ := readsW_list_inv r1
 obtain ⟨is,hil,hv⟩ := int_list hi ri
 have hn : is.length ≤ 63 := by
   have h1 := (holds_andW hc).1
   rw [hil]
   by_cases q : (63 : Int) < xs.length
   · exfalso
     have e : WTm.value rowV.records (.not (.lt (.lit (.int 63)) (.len (.arg 0)))) { args := [.list xs] } = some (.bool (!(decide ((63 : Int) < xs.length)))) := rfl
     unfold WTm.holds at h1
     have h1 : (match WTm.value rowV.records (.not (.lt (.lit (.int 63)) (.len (.arg 0)))) { args := [.list xs] } with | some (.bool true) => true | _ => false) = true := h1
     rw [e,decide_eq_true q] at h1
     cases h1
   · omega
 have ex : obsX K = (true,some (some (.ref 779))) := congrArg (·.1) e
 have hfa : fa = 779 := by
   have e1 := mg_of X G.T.g (show nsIn K mainGlobals (Str.ofString "law") = some (some (.ref 779)) from congrArg (·.2) ex)
   have e2 : mg (Str.ofString "law") = some (.ref fa) := (congrArg mg (defOf_name hd)).symm.trans hmg
   rw [e1] at e2
   cases e2; rfl
 subst hfa
 refine enter_call (codeAny_mono (law_call X e G.T.nolimit ⟨mb,G.T.b,λ b => ?_⟩ (vs := va.toList) (is := is) (by simpa using hl) hv hn) λ r s' h => ?_)
 · refine (G.T.builtins _ ?_).trans ?_
   · cases b <;> decide +kernel
   · cases b <;> kernel_rfl
 · obtain ⟨rfl,k,ho,hgn⟩ := h
   refine GoodW.toG ⟨.inl ⟨.bool true,.bool true,[],rfl,λ _ => rfl,.bool true, ?_,λ _ => ⟨.nil,nofun⟩⟩,k,ho,hgn.trans hg⟩
   wrow_post
set_option maxHeartbeats 4000000 in
theorem said : OpenLaw.wellSaid PySem.Challenge.rw_np0098_01 = true := by
 refine (congrFun Fast.te9446332074065402090 _).trans ?_
 delta Fast.tw9446332074065402090 Fast.tw17960256430627541270 Fast.tw2436336058641802641 Fast.tw12908688711261696721
 iterate 33 refine look_both ?_ (by kernel_rfl)
 iterate 2 refine look_both ?_ (by as_aux_lemma => kernel_rfl)
 as_aux_lemma => kernel_rfl
theorem ok5 : (chainsOk qV && opensWell rowV.prog && (frees rowV.toRowW && rowV.within.isEmpty)) = true := by kernel_rfl
end P_A5

end Mine
open PySem PySem.W PySem.Calls PyProof.Rows
theorem PySem.Challenge.cw_np0098_01_holds : PySem.Challenge.rw_np0098_01.Holds := by
 refine PySem.W.holds_law Mine.said λ k1 => ?_
 obtain ⟨d,kwd,h1,h2,h3⟩ := Mine.defs
 exact PySem.W.holds_open (q := Mine.qV) (loose := Mine.lsV) (XP := λ _ _ => True) (YP := λ _ h => Mine.YK h) Mine.left (λ _ _ => of_eq_true) (λ w h h' ⟨K,X,e⟩ k => ⟨K,X.keeps k,e⟩) (λ _ _ => trivial) (λ _ _ _ _ _ => trivial) h1 h2 h3
   (λ s _ => PySem.W.recFacts_of rfl) rfl k1 Mine.ok5 ⟨rfl,rfl,rfl,rfl,rfl,by decide +kernel⟩ ⟨[.list []],by decide +kernel,by decide +kernel⟩ (Mine.walk h1)

